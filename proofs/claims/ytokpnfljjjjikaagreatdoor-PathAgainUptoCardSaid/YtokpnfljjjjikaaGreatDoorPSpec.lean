/- The path reader over lists of bytes: plain functions, and that the printed ones are these. -/
import Derived.Test.YtokpnfljjjjikaaGreatDoorQPathx8
namespace Go.Proofs.YtokpnfljjjjikaaGreatDoor.PathL
open Go.RowKit Go.Proofs.YtokpnfljjjjikaaGreatDoor Go.Proofs.YtokpnfljjjjikaaGreatDoor.QPath Go.Proofs.YtokpnfljjjjikaaGreatDoorW.PrintWords Go.Proofs.YtokpnfljjjjikaaGreatDoorW.PrintMore

def rest (s : ByteArray) (p : Nat) : List UInt8 := s.data.toList.drop p
theorem rest_length (s : ByteArray) (p : Nat) : (rest s p).length = s.size - p := by
  unfold rest
  rw [List.length_drop, data_length]
theorem rest_add (s : ByteArray) (p n : Nat) : rest s (p + n) = (rest s p).drop n := by
  unfold rest
  rw [List.drop_drop]
theorem rest_cons {s : ByteArray} {p : Nat} {b : UInt8} {l : List UInt8} (h : rest s p = b :: l) : p < s.size ∧ bt s (p : Int) = (b.toNat : Int) ∧ rest s (p + 1) = l := by
  have hlen := rest_length s p
  rw [h] at hlen
  have hp : p < s.size := by simp at hlen; omega
  refine ⟨hp, ?_, ?_⟩
  · have h0 : (rest s p)[0]? = some b := by rw [h]; rfl
    unfold rest at h0
    rw [List.getElem?_drop] at h0
    unfold bt
    have hp' : ((p : Int)).toNat < s.size := by omega
    rw [dif_pos hp']
    have h1 : s[((p : Int)).toNat]'hp' = b := by
      have h2 : s.data.toList[p]? = some b := by simpa using h0
      rw [List.getElem?_eq_getElem (by rw [data_length]; exact hp)] at h2
      have h3 := Option.some.inj h2
      rw [← h3]
      simp [ByteArray.getElem_eq_getElem_data]
    rw [h1]
  · rw [rest_add, h]
    rfl
theorem rest_nil {s : ByteArray} {p : Nat} (h : rest s p = []) : s.size ≤ p := by
  have hlen := rest_length s p
  rw [h] at hlen
  simp at hlen
  omega
theorem extract_rest (s : ByteArray) (p q : Nat) (_h : p ≤ q) : s.extract p q = mkText ((rest s p).take (q - p)) := by
  apply ByteArray.ext
  rw [← Array.toList_inj]
  simp [mkText, rest]
theorem takeWhile_take {α : Type} (P : α → Bool) : ∀ l : List α, l.take (l.takeWhile P).length = l.takeWhile P
  | [] => rfl
  | b :: l => by
    by_cases hb : P b = true
    · simp [hb, takeWhile_take P l]
    · simp [hb]
theorem wrapS (n : Nat) (h : n < 4611686018427387904) : wrap64 ((n : Int) + 1) = ((n + 1 : Nat) : Int) := by unfold wrap64; omega

def nextIs (c : UInt8) : List UInt8 → Bool
  | [] => false
  | b :: _ => b == c
theorem take_eq (s : ByteArray) (p : Nat) (c : UInt8) (ci : Int) (hc : ci = (c.toNat : Int)) (hs : s.size < 4611686018427387904) :
    path_reader_take.f s (p : Int) ci = some (nextIs c (rest s p), s, (((if nextIs c (rest s p) = true then p + 1 else p) : Nat) : Int)) := by
  subst hc
  unfold path_reader_take.f
  cases hr : rest s p with
  | nil =>
    have := rest_nil hr
    rw [if_neg (by omega)]
    rfl
  | cons b l =>
    obtain ⟨h1, h2, _⟩ := rest_cons hr
    rw [if_pos (by omega), if_pos (by omega), h2]
    by_cases hb : b = c
    · subst hb
      rw [if_pos rfl, wrapS p (by omega)]
      simp [nextIs]
    · rw [if_neg (by intro h; exact hb (UInt8.toNat_inj.mp (by omega)))]
      simp [nextIs, hb]
def peekL : List UInt8 → UInt8
  | [] => 0
  | b :: _ => b
theorem peek_eq (s : ByteArray) (p : Nat) : path_reader_peek.f s (p : Int) = some (((peekL (rest s p)).toNat : Int), s, (p : Int)) := by
  unfold path_reader_peek.f
  cases hr : rest s p with
  | nil =>
    have := rest_nil hr
    rw [if_neg (by omega)]
    rfl
  | cons b l =>
    obtain ⟨h1, h2, _⟩ := rest_cons hr
    rw [if_pos (by omega), if_pos (by omega), h2]
    rfl
theorem forall_byte {Q : UInt8 → Prop} (h : ∀ n, n < 256 → Q (UInt8.ofNat n)) (b : UInt8) : Q b := by
  have := h b.toNat (UInt8.toNat_lt b)
  rwa [UInt8.ofNat_toNat] at this

def labB (b : UInt8) : Bool := (path_reader_label_1.f (b.toNat : Int)).getD false
theorem labB_eq (b : UInt8) : path_reader_label_1.f (b.toNat : Int) = some (labB b) := by
  unfold labB
  have h : (path_reader_label_1.f (b.toNat : Int)).isSome = true := by
    have h2 : ∀ n, n < 256 → (path_reader_label_1.f ((n : Nat) : Int)).isSome = true := by decide +kernel
    exact h2 _ (UInt8.toNat_lt b)
  cases hf : path_reader_label_1.f (b.toNat : Int) with
  | none => rw [hf] at h; cases h
  | some x => rfl
def atomB (b : UInt8) : Bool := (path_atomic.f (b.toNat : Int)).getD false
theorem atomB_eq (b : UInt8) : path_atomic.f (b.toNat : Int) = some (atomB b) := by
  unfold atomB
  have h : (path_atomic.f (b.toNat : Int)).isSome = true := by
    have h2 : ∀ n, n < 256 → (path_atomic.f ((n : Nat) : Int)).isSome = true := by decide +kernel
    exact h2 _ (UInt8.toNat_lt b)
  cases hf : path_atomic.f (b.toNat : Int) with
  | none => rw [hf] at h; cases h
  | some x => rfl
def wordB (b : UInt8) : Bool := b != 93
theorem wordB_eq (b : UInt8) : path_reader_box_1.f (b.toNat : Int) = some (wordB b) := by
  unfold path_reader_box_1.f wordB
  congr 1
  by_cases hb : b = 93
  · subst hb; rfl
  · have : ¬ ((b.toNat : Int) = 93) := by
      intro h
      exact hb (UInt8.toNat_inj.mp (by simpa using (by omega : b.toNat = 93)))
    rw [bne_iff_ne.mpr this, bne_iff_ne.mpr hb]

theorem lab_run (s : ByteArray) (hs : s.size < 4611686018427387904) (a : Nat) : ∀ (k p : Nat), (rest s p).length < k → a ≤ p → p ≤ s.size →
    path_reader_run_at_path_reader_label_1.l0 k (a : Int) s (p : Int) = some (s.extract a (p + ((rest s p).takeWhile labB).length), decide (a < p + ((rest s p).takeWhile labB).length), s, ((p + ((rest s p).takeWhile labB).length : Nat) : Int))
  | 0, p, h, _, _ => absurd h (Nat.not_lt_zero _)
  | k + 1, p, h, ha, hp => by
    unfold path_reader_run_at_path_reader_label_1.l0
    cases hr : rest s p with
    | nil =>
      have := rest_nil hr
      rw [if_neg (by omega), if_pos (by omega), if_pos (by omega), if_pos (by omega)]
      simp
      try exact decide_eq_decide.mpr Iff.rfl
    | cons c l =>
      obtain ⟨h1, h2, h3⟩ := rest_cons hr
      rw [if_pos (by omega), if_pos (by omega), h2, labB_eq]
      simp only [Option.bind_some]
      by_cases hb : labB c = true
      · rw [if_pos hb, wrapS p (by omega), lab_run s hs a k (p + 1) (by rw [h3]; rw [hr] at h; simp at h; omega) (by omega) (by omega), h3]
        have e : p + 1 + (l.takeWhile labB).length = p + ((c :: l).takeWhile labB).length := by simp [hb]; omega
        rw [e]
      · rw [if_neg hb, if_pos (by omega), if_pos (by omega), if_pos (by omega)]
        simp [hb]
theorem lab_eq (s : ByteArray) (hs : s.size < 4611686018427387904) (k p : Nat) (hk : (rest s p).length < k) (hp : p ≤ s.size) :
    path_reader_run_at_path_reader_label_1.f k s (p : Int) = some (mkText ((rest s p).takeWhile labB), decide (0 < ((rest s p).takeWhile labB).length), s, ((p + ((rest s p).takeWhile labB).length : Nat) : Int)) := by
  unfold path_reader_run_at_path_reader_label_1.f
  rw [lab_run s hs p k p hk (Nat.le_refl _) hp, extract_rest _ _ _ (by omega), Nat.add_sub_cancel_left, takeWhile_take]
  congr 2
  simp

theorem atom_run (s : ByteArray) (hs : s.size < 4611686018427387904) (a : Nat) : ∀ (k p : Nat), (rest s p).length < k → a ≤ p → p ≤ s.size →
    path_reader_run_at_path_atomic.l0 k (a : Int) s (p : Int) = some (s.extract a (p + ((rest s p).takeWhile atomB).length), decide (a < p + ((rest s p).takeWhile atomB).length), s, ((p + ((rest s p).takeWhile atomB).length : Nat) : Int))
  | 0, p, h, _, _ => absurd h (Nat.not_lt_zero _)
  | k + 1, p, h, ha, hp => by
    unfold path_reader_run_at_path_atomic.l0
    cases hr : rest s p with
    | nil =>
      have := rest_nil hr
      rw [if_neg (by omega), if_pos (by omega), if_pos (by omega), if_pos (by omega)]
      simp
      try exact decide_eq_decide.mpr Iff.rfl
    | cons c l =>
      obtain ⟨h1, h2, h3⟩ := rest_cons hr
      rw [if_pos (by omega), if_pos (by omega), h2, atomB_eq]
      simp only [Option.bind_some]
      by_cases hb : atomB c = true
      · rw [if_pos hb, wrapS p (by omega), atom_run s hs a k (p + 1) (by rw [h3]; rw [hr] at h; simp at h; omega) (by omega) (by omega), h3]
        have e : p + 1 + (l.takeWhile atomB).length = p + ((c :: l).takeWhile atomB).length := by simp [hb]; omega
        rw [e]
      · rw [if_neg hb, if_pos (by omega), if_pos (by omega), if_pos (by omega)]
        simp [hb]
theorem atom_eq (s : ByteArray) (hs : s.size < 4611686018427387904) (k p : Nat) (hk : (rest s p).length < k) (hp : p ≤ s.size) :
    path_reader_run_at_path_atomic.f k s (p : Int) = some (mkText ((rest s p).takeWhile atomB), decide (0 < ((rest s p).takeWhile atomB).length), s, ((p + ((rest s p).takeWhile atomB).length : Nat) : Int)) := by
  unfold path_reader_run_at_path_atomic.f
  rw [atom_run s hs p k p hk (Nat.le_refl _) hp, extract_rest _ _ _ (by omega), Nat.add_sub_cancel_left, takeWhile_take]
  congr 2
  simp

theorem word_run (s : ByteArray) (hs : s.size < 4611686018427387904) (a : Nat) : ∀ (k p : Nat), (rest s p).length < k → a ≤ p → p ≤ s.size →
    path_reader_run_at_path_reader_box_1.l0 k (a : Int) s (p : Int) = some (s.extract a (p + ((rest s p).takeWhile wordB).length), decide (a < p + ((rest s p).takeWhile wordB).length), s, ((p + ((rest s p).takeWhile wordB).length : Nat) : Int))
  | 0, p, h, _, _ => absurd h (Nat.not_lt_zero _)
  | k + 1, p, h, ha, hp => by
    unfold path_reader_run_at_path_reader_box_1.l0
    cases hr : rest s p with
    | nil =>
      have := rest_nil hr
      rw [if_neg (by omega), if_pos (by omega), if_pos (by omega), if_pos (by omega)]
      simp
      try exact decide_eq_decide.mpr Iff.rfl
    | cons c l =>
      obtain ⟨h1, h2, h3⟩ := rest_cons hr
      rw [if_pos (by omega), if_pos (by omega), h2, wordB_eq]
      simp only [Option.bind_some]
      by_cases hb : wordB c = true
      · rw [if_pos hb, wrapS p (by omega), word_run s hs a k (p + 1) (by rw [h3]; rw [hr] at h; simp at h; omega) (by omega) (by omega), h3]
        have e : p + 1 + (l.takeWhile wordB).length = p + ((c :: l).takeWhile wordB).length := by simp [hb]; omega
        rw [e]
      · rw [if_neg hb, if_pos (by omega), if_pos (by omega), if_pos (by omega)]
        simp [hb]
theorem word_eq (s : ByteArray) (hs : s.size < 4611686018427387904) (k p : Nat) (hk : (rest s p).length < k) (hp : p ≤ s.size) :
    path_reader_run_at_path_reader_box_1.f k s (p : Int) = some (mkText ((rest s p).takeWhile wordB), decide (0 < ((rest s p).takeWhile wordB).length), s, ((p + ((rest s p).takeWhile wordB).length : Nat) : Int)) := by
  unfold path_reader_run_at_path_reader_box_1.f
  rw [word_run s hs p k p hk (Nat.le_refl _) hp, extract_rest _ _ _ (by omega), Nat.add_sub_cancel_left, takeWhile_take]
  congr 2
  simp

theorem bt_mk (l : List UInt8) (i : Nat) (h : i < l.length) : bt (mkText l) (i : Int) = ((l.getD i 0).toNat : Int) := by
  unfold bt
  have h' : ((i : Int)).toNat < (mkText l).size := by show _ < l.length; omega
  rw [dif_pos h']
  have : (mkText l)[((i : Int)).toNat]'(h') = l.getD i 0 := by
    simp only [Int.toNat_natCast]
    rw [List.getD_eq_getElem?_getD, List.getElem?_eq_getElem h]
    rfl
  rw [this]
theorem mkText_size (l : List UInt8) : (mkText l).size = l.length := rfl
theorem takeWhile_le {α : Type} (P : α → Bool) (l : List α) : (l.takeWhile P).length ≤ l.length := (List.takeWhile_sublist P).length_le
def labelL (l : List UInt8) : Bool × Nat :=
  (match l.takeWhile labB with
   | [] => false
   | c :: t => c != 45 && (c :: t).getD t.length 0 != 45, (l.takeWhile labB).length)
theorem toNat_eq {a b : UInt8} (h : (a.toNat : Int) = (b.toNat : Int)) : a = b := UInt8.toNat_inj.mp (by omega)
theorem label_eq (s : ByteArray) (hs : s.size < 4611686018427387904) (k p : Nat) (hk : (rest s p).length < k) (hp : p ≤ s.size) :
    path_reader_label.f k s (p : Int) = some ((labelL (rest s p)).1, s, ((p + (labelL (rest s p)).2 : Nat) : Int)) := by
  unfold path_reader_label.f labelL
  rw [lab_eq s hs k p hk hp]
  simp only [Option.bind_some]
  have hle := takeWhile_le labB (rest s p)
  have hrl := rest_length s p
  generalize (rest s p).takeWhile labB = w at hle ⊢
  cases w with
  | nil => simp
  | cons c t =>
    have h0 : bt (mkText (c :: t)) 0 = (c.toNat : Int) := bt_mk (c :: t) 0 (by simp)
    have e1 : wrap64 (((mkText (c :: t)).size : Int) - 1) = (t.length : Int) := by
      rw [mkText_size]
      unfold wrap64
      simp at hle ⊢
      omega
    have h1 : bt (mkText (c :: t)) (t.length : Int) = (((c :: t).getD t.length 0).toNat : Int) := bt_mk (c :: t) t.length (by simp)
    rw [if_pos (by simp), if_pos (by rw [mkText_size]; first | (simp; done) | (simp; omega)), h0, e1, h1]
    by_cases hc : c = 45
    · subst hc
      rw [if_pos (show ((UInt8.toNat 45 : Nat) : Int) = 45 from rfl)]
      simp
    · rw [if_neg (show ¬ (c.toNat : Int) = 45 from fun h => hc (toNat_eq (b := 45) h)), if_pos (by omega), if_pos (by rw [mkText_size]; first | (simp; done) | (simp; omega))]
      have : ((((c :: t).getD t.length 0).toNat : Int) != 45) = ((c :: t).getD t.length 0 != 45) := by
        by_cases hl : (c :: t).getD t.length 0 = 45
        · rw [hl]; rfl
        · rw [bne_iff_ne.mpr hl, bne_iff_ne.mpr (show (((c :: t).getD t.length 0).toNat : Int) ≠ 45 from fun h => hl (toNat_eq (b := 45) h))]
      rw [this]
      simp [hc]
def atomL (l : List UInt8) : Bool × Nat := (decide (0 < (l.takeWhile atomB).length), (l.takeWhile atomB).length)
theorem atomp_eq (s : ByteArray) (hs : s.size < 4611686018427387904) (k p : Nat) (hk : (rest s p).length < k) (hp : p ≤ s.size) :
    path_reader_atom.f k s (p : Int) = some ((atomL (rest s p)).1, s, ((p + (atomL (rest s p)).2 : Nat) : Int)) := by
  unfold path_reader_atom.f atomL
  rw [atom_eq s hs k p hk hp]
  rfl
theorem labelL_le (l : List UInt8) : (labelL l).2 ≤ l.length := takeWhile_le _ _
theorem atomL_le (l : List UInt8) : (atomL l).2 ≤ l.length := takeWhile_le _ _

def listF (part : List UInt8 → Bool × Nat) (c : UInt8) : Nat → List UInt8 → Bool × Nat
  | 0, _ => (false, 0)
  | n + 1, l => if (part l).1 = true then (if nextIs c (l.drop (part l).2) = true then ((listF part c n (l.drop ((part l).2 + 1))).1, (part l).2 + 1 + (listF part c n (l.drop ((part l).2 + 1))).2) else (true, (part l).2)) else (false, (part l).2)
def listL (part : List UInt8 → Bool × Nat) (c : UInt8) (l : List UInt8) : Bool × Nat := listF part c (l.length + 1) l
theorem nextIs_drop {c : UInt8} {l : List UInt8} {n : Nat} (h : nextIs c (l.drop n) = true) : n < l.length := by
  rcases Nat.lt_or_ge n l.length with h1 | h1
  · exact h1
  · rw [List.drop_of_length_le h1] at h
    cases h
theorem listF_any (part : List UInt8 → Bool × Nat) (c : UInt8) : ∀ (n m : Nat) (l : List UInt8), l.length < n → l.length < m → listF part c n l = listF part c m l
  | 0, _, _, h, _ => absurd h (Nat.not_lt_zero _)
  | _, 0, _, _, h => absurd h (Nat.not_lt_zero _)
  | n + 1, m + 1, l, h1, h2 => by
    unfold listF
    by_cases hp : (part l).1 = true
    · rw [if_pos hp, if_pos hp]
      by_cases hn : nextIs c (l.drop (part l).2) = true
      · have := nextIs_drop hn
        rw [if_pos hn, if_pos hn, listF_any part c n m _ (by rw [List.length_drop]; omega) (by rw [List.length_drop]; omega)]
      · rw [if_neg hn, if_neg hn]
    · rw [if_neg hp, if_neg hp]
theorem listL_eq (part : List UInt8 → Bool × Nat) (c : UInt8) (l : List UInt8) :
    listL part c l = if (part l).1 = true then (if nextIs c (l.drop (part l).2) = true then ((listL part c (l.drop ((part l).2 + 1))).1, (part l).2 + 1 + (listL part c (l.drop ((part l).2 + 1))).2) else (true, (part l).2)) else (false, (part l).2) := by
  unfold listL
  rw [listF]
  by_cases hp : (part l).1 = true
  · rw [if_pos hp, if_pos hp]
    by_cases hn : nextIs c (l.drop (part l).2) = true
    · have := nextIs_drop hn
      rw [if_pos hn, if_pos hn, listF_any part c l.length ((l.drop ((part l).2 + 1)).length + 1) _ (by rw [List.length_drop]; omega) (by omega)]
    · rw [if_neg hn, if_neg hn]
  · rw [if_neg hp, if_neg hp]
theorem listL_le (part : List UInt8 → Bool × Nat) (c : UInt8) (hpart : ∀ l, (part l).2 ≤ l.length) : ∀ (n : Nat) (l : List UInt8), l.length < n → (listL part c l).2 ≤ l.length
  | 0, _, h => absurd h (Nat.not_lt_zero _)
  | n + 1, l, h => by
    rw [listL_eq]
    have hl := hpart l
    by_cases hp : (part l).1 = true
    · rw [if_pos hp]
      by_cases hn : nextIs c (l.drop (part l).2) = true
      · have h1 := nextIs_drop hn
        have h2 := listL_le part c hpart n (l.drop ((part l).2 + 1)) (by rw [List.length_drop]; omega)
        rw [List.length_drop] at h2
        rw [if_pos hn]
        show _ + 1 + _ ≤ _
        omega
      · rw [if_neg hn]
        exact hl
    · rw [if_neg hp]
      exact hl

theorem labels_run (s : ByteArray) (hs : s.size < 4611686018427387904) : ∀ (k p : Nat), (rest s p).length + 1 < k → p ≤ s.size →
    path_reader_list_at_path_reader_label.l0 k 46 s (p : Int) = some ((listL labelL 46 (rest s p)).1, s, ((p + (listL labelL 46 (rest s p)).2 : Nat) : Int))
  | 0, p, h, _ => absurd h (by omega)
  | k + 1, p, h, hp => by
    have hle := labelL_le (rest s p)
    have hrl := rest_length s p
    unfold path_reader_list_at_path_reader_label.l0
    rw [label_eq s hs k p (by omega) hp, listL_eq]
    simp only [Option.bind_some]
    by_cases h1 : (labelL (rest s p)).1 = true
    · rw [if_pos h1, if_pos h1, take_eq s _ 46 46 rfl hs]
      simp only [Option.bind_some, rest_add]
      by_cases h2 : nextIs 46 ((rest s p).drop (labelL (rest s p)).2) = true
      · have h3 := nextIs_drop h2
        rw [if_pos h2, if_pos h2, if_pos h2]
        have h4 := labels_run s hs k (p + (labelL (rest s p)).2 + 1) (by rw [rest_length]; omega) (by omega)
        rw [h4, Nat.add_assoc p, rest_add]
        congr 3
        omega
      · rw [if_neg h2, if_neg h2, if_neg h2]
    · rw [if_neg h1, if_neg h1]

theorem atoms_run (s : ByteArray) (hs : s.size < 4611686018427387904) : ∀ (k p : Nat), (rest s p).length + 1 < k → p ≤ s.size →
    path_reader_list_at_path_reader_atom.l0 k 46 s (p : Int) = some ((listL atomL 46 (rest s p)).1, s, ((p + (listL atomL 46 (rest s p)).2 : Nat) : Int))
  | 0, p, h, _ => absurd h (by omega)
  | k + 1, p, h, hp => by
    have hle := atomL_le (rest s p)
    have hrl := rest_length s p
    unfold path_reader_list_at_path_reader_atom.l0
    rw [atomp_eq s hs k p (by omega) hp, listL_eq]
    simp only [Option.bind_some]
    by_cases h1 : (atomL (rest s p)).1 = true
    · rw [if_pos h1, if_pos h1, take_eq s _ 46 46 rfl hs]
      simp only [Option.bind_some, rest_add]
      by_cases h2 : nextIs 46 ((rest s p).drop (atomL (rest s p)).2) = true
      · have h3 := nextIs_drop h2
        rw [if_pos h2, if_pos h2, if_pos h2]
        have h4 := atoms_run s hs k (p + (atomL (rest s p)).2 + 1) (by rw [rest_length]; omega) (by omega)
        rw [h4, Nat.add_assoc p, rest_add]
        congr 3
        omega
      · rw [if_neg h2, if_neg h2, if_neg h2]
    · rw [if_neg h1, if_neg h1]

def domL (l : List UInt8) : Bool × ByteArray × Nat := ((listL labelL 46 l).1, path_small.g (mkText (l.take (listL labelL 46 l).2)), (listL labelL 46 l).2)
theorem domL_le (l : List UInt8) : (domL l).2.2 ≤ l.length := listL_le labelL 46 labelL_le _ l (Nat.lt_succ_self _)
theorem domain_eq (s : ByteArray) (hs : s.size < 4611686018427387904) (k p : Nat) (hk : (rest s p).length + 1 < k) (hp : p ≤ s.size) :
    path_reader_domain.f k s (p : Int) = some ((domL (rest s p)).2.1, (domL (rest s p)).1, s, ((p + (domL (rest s p)).2.2 : Nat) : Int)) := by
  have hle := domL_le (rest s p)
  have hrl := rest_length s p
  unfold domL at hle ⊢
  simp only at hle ⊢
  unfold path_reader_domain.f path_reader_list_at_path_reader_label.f
  rw [labels_run s hs k p hk hp]
  simp only [Option.bind_some]
  rw [if_pos (by omega), if_pos (by omega), if_pos (by omega)]
  have e : s.extract ((p : Int)).toNat (((p + (listL labelL 46 (rest s p)).2 : Nat) : Int)).toNat = mkText ((rest s p).take (listL labelL 46 (rest s p)).2) := by
    rw [Int.toNat_natCast, Int.toNat_natCast, extract_rest _ _ _ (by omega), Nat.add_sub_cancel_left]
  rw [e]
  have hf : path_small.f (mkText ((rest s p).take (listL labelL 46 (rest s p)).2)) = some (path_small.g (mkText ((rest s p).take (listL labelL 46 (rest s p)).2))) := by
    unfold path_small.f
    rw [if_pos]
    rw [mkText_size, List.length_take]
    omega
  rw [hf]
  rfl

def quotL : List UInt8 → List UInt8 → Bool × List UInt8 × Nat
  | [], _ => (false, [], 0)
  | b :: l, acc =>
    if b = 34 then (true, acc, 1)
    else if b = 92 then
      match l with
      | [] => (false, [], 2)
      | c :: l' => if c < 32 ∨ 126 < c then (false, [], 2) else ((quotL l' (acc ++ [c])).1, (quotL l' (acc ++ [c])).2.1, (quotL l' (acc ++ [c])).2.2 + 2)
    else if b < 32 ∨ 126 < b then (false, [], 1)
    else ((quotL l (acc ++ [b])).1, (quotL l (acc ++ [b])).2.1, (quotL l (acc ++ [b])).2.2 + 1)
def numsOf (l : List UInt8) : List Int := l.map fun b => (b.toNat : Int)
theorem str_nums (l : List UInt8) : strOfNums (numsOf l) = mkText l := by
  unfold strOfNums numsOf mkText
  congr 1
  rw [List.map_map, ← Array.toList_inj]
  show List.map _ l = l
  rw [show ((fun n : Int => UInt8.ofNat n.toNat) ∘ fun b : UInt8 => (b.toNat : Int)) = id from by funext b; simp]
  simp
theorem ltI {b c : UInt8} : ((b.toNat : Int) < (c.toNat : Int)) ↔ b < c := by
  rw [UInt8.lt_iff_toNat_lt]
  omega
theorem lt32 {b : UInt8} : ((b.toNat : Int) < 32) ↔ b < 32 := ltI (c := 32)
theorem gt126 {b : UInt8} : ((b.toNat : Int) > 126) ↔ 126 < b := ltI (b := 126)
theorem quot_run (s : ByteArray) (hs : s.size < 70368744177664) : ∀ (k p : Nat) (acc : List UInt8), (rest s p).length + 1 < k → p ≤ s.size → acc.length + (rest s p).length ≤ s.size →
    path_reader_local.l0 k (numsOf acc) s (p : Int) = some (mkText (quotL (rest s p) acc).2.1, (quotL (rest s p) acc).1, s, ((p + (quotL (rest s p) acc).2.2 : Nat) : Int))
  | 0, p, acc, h, _, _ => absurd h (by omega)
  | k + 1, p, acc, h, hp, ha => by
    unfold path_reader_local.l0
    have hrl := rest_length s p
    cases hr : rest s p with
    | nil =>
      have := rest_nil hr
      rw [if_neg (by omega)]
      rfl
    | cons b l =>
      obtain ⟨h1, h2, h3⟩ := rest_cons hr
      have hlen : l.length + 1 = s.size - p := by rw [hr] at hrl; simpa using hrl
      rw [if_pos (by omega), if_pos (by omega), h2]
      unfold quotL
      by_cases hq : b = 34
      · subst hq
        rw [if_pos rfl, if_pos (show ((UInt8.toNat 34 : Nat) : Int) = 34 from rfl), str_nums, wrapS p (by omega)]
      · rw [if_neg hq, if_neg (show ¬ (b.toNat : Int) = 34 from fun h => hq (toNat_eq (b := 34) h))]
        by_cases hb : b = 92
        · subst hb
          rw [if_pos rfl, if_pos (show ((UInt8.toNat 92 : Nat) : Int) = 92 from rfl), wrapS p (by omega), peek_eq, h3]
          simp only [Option.bind_some]
          cases l with
          | nil =>
            have e : wrap64 (((p + 1 : Nat) : Int) + 1) = ((p + 2 : Nat) : Int) := by unfold wrap64; omega
            rw [if_pos (by decide), e]
            rfl
          | cons c l' =>
            have e : wrap64 (((p + 1 : Nat) : Int) + 1) = ((p + 2 : Nat) : Int) := by unfold wrap64; omega
            rw [e]
            show (if ((c.toNat : Int) < 32) then _ else if ((c.toNat : Int) > 126) then _ else _) = _
            by_cases hc : c < 32
            · rw [if_pos (lt32.mpr hc)]
              simp only [if_pos (Or.inl hc : c < 32 ∨ 126 < c)]
              rfl
            · rw [if_neg (fun h => hc (lt32.mp h))]
              by_cases hd : 126 < c
              · rw [if_pos (gt126.mpr hd)]
                simp only [if_pos (Or.inr hd : c < 32 ∨ 126 < c)]
                rfl
              · rw [if_neg (fun h => hd (gt126.mp h)), if_pos (by simp [numsOf]; rw [hr] at ha; simp at ha; omega)]
                have hcd : ¬ (c < 32 ∨ 126 < c) := fun h => h.elim hc hd
                simp only [if_neg hcd]
                have hr2 : rest s (p + 2) = l' := by rw [rest_add, hr]; rfl
                have hn : numsOf acc ++ [(c.toNat : Int)] = numsOf (acc ++ [c]) := by simp [numsOf]
                have := quot_run s hs k (p + 2) (acc ++ [c]) (by rw [hr2]; simp at hlen; rw [hr] at h; simp at h; omega) (by simp at hlen; omega) (by rw [hr2]; rw [hr] at ha; simp at ha ⊢; omega)
                rw [show peekL (c :: l') = c from rfl, hn, this, hr2, Nat.add_assoc, Nat.add_comm 2]
        · rw [if_neg hb, if_neg (show ¬ (b.toNat : Int) = 92 from fun h => hb (toNat_eq (b := 92) h)), wrapS p (by omega)]
          by_cases hc : b < 32
          · rw [if_pos (lt32.mpr hc), if_pos (Or.inl hc)]
            rfl
          · rw [if_neg (fun h => hc (lt32.mp h))]
            by_cases hd : 126 < b
            · rw [if_pos (gt126.mpr hd), if_pos (Or.inr hd)]
              rfl
            · rw [if_neg (fun h => hd (gt126.mp h)), if_pos (by simp [numsOf]; rw [hr] at ha; simp at ha; omega), if_neg (fun h => h.elim hc hd)]
              have hn : numsOf acc ++ [(b.toNat : Int)] = numsOf (acc ++ [b]) := by simp [numsOf]
              have := quot_run s hs k (p + 1) (acc ++ [b]) (by rw [h3]; rw [hr] at h; simp at h; omega) (by omega) (by rw [h3]; rw [hr] at ha; simp at ha ⊢; omega)
              rw [hn, this, h3, Nat.add_assoc, Nat.add_comm 1]
theorem quotL_le : ∀ (n : Nat) (l acc : List UInt8), l.length < n → (quotL l acc).1 = true → (quotL l acc).2.2 ≤ l.length
  | 0, _, _, h, _ => absurd h (Nat.not_lt_zero _)
  | n + 1, l, acc, h, ho => by
    cases l with
    | nil => unfold quotL at ho; cases ho
    | cons b l =>
      unfold quotL at ho ⊢
      by_cases hq : b = 34
      · rw [if_pos hq] at ho ⊢
        simp
      · rw [if_neg hq] at ho ⊢
        by_cases hb : b = 92
        · rw [if_pos hb] at ho ⊢
          cases l with
          | nil => cases ho
          | cons c l' =>
            by_cases hc : c < 32 ∨ 126 < c
            · simp only [if_pos hc] at ho
              cases ho
            · simp only [if_neg hc] at ho ⊢
              have := quotL_le n l' (acc ++ [c]) (by simp at h; omega) ho
              simp
              omega
        · rw [if_neg hb] at ho ⊢
          by_cases hc : b < 32 ∨ 126 < b
          · rw [if_pos hc] at ho
            cases ho
          · rw [if_neg hc] at ho ⊢
            have := quotL_le n l (acc ++ [b]) (by simp at h; omega) ho
            simp
            omega
def localL (l : List UInt8) : Bool × ByteArray × Nat :=
  if nextIs 34 l = true then ((quotL (l.drop 1) []).1, mkText (quotL (l.drop 1) []).2.1, 1 + (quotL (l.drop 1) []).2.2)
  else ((listL atomL 46 l).1, mkText (l.take (listL atomL 46 l).2), (listL atomL 46 l).2)
theorem nextIs_pos {c : UInt8} {l : List UInt8} (h : nextIs c l = true) : 0 < l.length := by
  cases l with
  | nil => cases h
  | cons _ _ => simp
theorem localL_le (l : List UInt8) (h : (localL l).1 = true) : (localL l).2.2 ≤ l.length := by
  unfold localL at h ⊢
  by_cases hq : nextIs 34 l = true
  · rw [if_pos hq] at h ⊢
    have h1 := nextIs_pos hq
    have h2 := quotL_le _ (l.drop 1) [] (Nat.lt_succ_self _) h
    rw [List.length_drop] at h2
    show 1 + _ ≤ _
    omega
  · rw [if_neg hq]
    exact listL_le atomL 46 atomL_le _ l (Nat.lt_succ_self _)
theorem local_eq (s : ByteArray) (hs : s.size < 70368744177664) (k p : Nat) (hk : (rest s p).length + 1 < k) (hp : p ≤ s.size) :
    path_reader_local.f k s (p : Int) = some ((localL (rest s p)).2.1, (localL (rest s p)).1, s, ((p + (localL (rest s p)).2.2 : Nat) : Int)) := by
  have hrl := rest_length s p
  unfold path_reader_local.f localL
  rw [take_eq s p 34 34 rfl (by omega)]
  simp only [Option.bind_some]
  by_cases hq : nextIs 34 (rest s p) = true
  · have h1 := nextIs_pos hq
    have := quot_run s hs k (p + 1) [] (by rw [rest_length]; omega) (by omega) (by rw [rest_length]; simp)
    rw [if_pos hq, if_pos hq, if_pos hq]
    rw [show ([] : List Int) = numsOf [] from rfl, this, rest_add, Nat.add_assoc]
  · rw [if_neg hq, if_neg hq, if_neg hq]
    have hle := listL_le atomL 46 atomL_le _ (rest s p) (Nat.lt_succ_self _)
    unfold path_reader_list_at_path_reader_atom.f
    rw [atoms_run s (by omega) k p hk hp]
    simp only [Option.bind_some]
    rw [if_pos (by omega), if_pos (by omega), if_pos (by omega), Int.toNat_natCast, Int.toNat_natCast, extract_rest _ _ _ (by omega), Nat.add_sub_cancel_left]
theorem more {α : Type} {f : Nat → Option α} (hm : ∀ k, LeO (f k) (f (k + 1))) {k1 k2 : Nat} (h : k1 ≤ k2) {r : α} (hf : f k1 = some r) : f k2 = some r := by
  induction h with
  | refl => exact hf
  | step _ ih => exact hm _ _ ih

theorem litIdx_run (k0 : Nat) {xs : List ByteArray} (hf : ∀ y, y ∈ xs → ∀ k, k0 ≤ k → ∃ r, path_Literal_1.f y = some r) : ∀ (k i : Nat), xs.length - i + k0 < k → i ≤ xs.length → xs.length < 4611686018427387904 → ∃ r, slices_IndexFunc_string_string_at_path_Literal_1.l0 k xs (xs.length : Int) (i : Int) = some r
  | 0, _, h, _, _ => absurd h (Nat.not_lt_zero _)
  | k + 1, i, h, hi, hl => by
    unfold slices_IndexFunc_string_string_at_path_Literal_1.l0
    by_cases hlt : i < xs.length
    · rw [if_pos (by omega), if_pos (by omega), if_pos (by omega)]
      have hrd : rdOf ByteArray.empty xs (i : Int) = xs[i] := by simp [rdOf, hlt]
      obtain ⟨r, hr⟩ := hf xs[i] (List.getElem_mem hlt) k (by omega)
      rw [hrd, hr]
      simp only [Option.bind_some]
      split
      · exact ⟨_, rfl⟩
      · rw [wrapS i (by omega)]
        exact litIdx_run k0 hf k (i + 1) (by omega) (by omega) hl
    · rw [if_neg (by omega)]
      exact ⟨_, rfl⟩
theorem litIdx_some (k0 k : Nat) {xs : List ByteArray} (hf : ∀ y, y ∈ xs → ∀ k, k0 ≤ k → ∃ r, path_Literal_1.f y = some r) (hk : xs.length + k0 < k) (hl : xs.length < 4611686018427387904) : ∃ r, slices_IndexFunc_string_string_at_path_Literal_1.f k xs = some r := litIdx_run k0 hf k 0 (by omega) (Nat.zero_le _) hl

theorem shortIdx_run (k0 : Nat) {xs : List ByteArray} (hf : ∀ y, y ∈ xs → ∀ k, k0 ≤ k → ∃ r, path_short_1.f y = some r) : ∀ (k i : Nat), xs.length - i + k0 < k → i ≤ xs.length → xs.length < 4611686018427387904 → ∃ r, slices_IndexFunc_string_string_at_path_short_1.l0 k xs (xs.length : Int) (i : Int) = some r
  | 0, _, h, _, _ => absurd h (Nat.not_lt_zero _)
  | k + 1, i, h, hi, hl => by
    unfold slices_IndexFunc_string_string_at_path_short_1.l0
    by_cases hlt : i < xs.length
    · rw [if_pos (by omega), if_pos (by omega), if_pos (by omega)]
      have hrd : rdOf ByteArray.empty xs (i : Int) = xs[i] := by simp [rdOf, hlt]
      obtain ⟨r, hr⟩ := hf xs[i] (List.getElem_mem hlt) k (by omega)
      rw [hrd, hr]
      simp only [Option.bind_some]
      split
      · exact ⟨_, rfl⟩
      · rw [wrapS i (by omega)]
        exact shortIdx_run k0 hf k (i + 1) (by omega) (by omega) hl
    · rw [if_neg (by omega)]
      exact ⟨_, rfl⟩
theorem shortIdx_some (k0 k : Nat) {xs : List ByteArray} (hf : ∀ y, y ∈ xs → ∀ k, k0 ≤ k → ∃ r, path_short_1.f y = some r) (hk : xs.length + k0 < k) (hl : xs.length < 4611686018427387904) : ∃ r, slices_IndexFunc_string_string_at_path_short_1.f k xs = some r := shortIdx_run k0 hf k 0 (by omega) (Nat.zero_le _) hl

theorem split_some (x : ByteArray) (c : UInt8) (hx : x.size < 4294967281) : strings_Split.f x ⟨#[c]⟩ = some ((pieces c x.data.toList).map mkText) := by
  unfold strings_Split.f
  rw [show one? ⟨#[c]⟩ = some c from rfl]
  simp only [if_pos hx]
theorem pieces_num (c : UInt8) (x : ByteArray) : ((pieces c x.data.toList).map mkText).length ≤ x.size + 1 := by
  rw [List.length_map, pieces_length]
  have := List.count_le_length (a := c) (l := x.data.toList)
  rw [data_length] at this
  omega
theorem groups_some (x : ByteArray) (hx : x.size < 4294967281) : ∃ r, path_groups.f x = some r := by
  unfold path_groups.f
  rw [if_pos hx]
  exact ⟨_, rfl⟩
theorem six_some (x : ByteArray) (hx : x.size < 4294967281) : ∃ r, path_six.f x = some r := by
  unfold path_six.f strings_Cut.f
  rw [if_pos hx]
  simp only [Option.bind_some]
  have h1 : (mkText (Lib.cut x.data.toList [58, 58]).1).size < 4294967281 := by
    show (Lib.cut x.data.toList [58, 58]).1.length < _
    have := data_length x
    unfold Lib.cut
    split
    · simp only [List.length_take]; omega
    · simp only; omega
  have h2 : (mkText (Lib.cut x.data.toList [58, 58]).2.1).size < 4294967281 := by
    show (Lib.cut x.data.toList [58, 58]).2.1.length < _
    have := data_length x
    unfold Lib.cut
    split
    · simp only [List.length_drop]; omega
    · simp only [List.length_nil]; omega
  obtain ⟨a, ha⟩ := groups_some _ h1
  obtain ⟨b, hb⟩ := groups_some _ h2
  show ∃ r, ((path_groups.f (mkText (Lib.cut x.data.toList [58, 58]).1)).bind fun t151 => ((path_groups.f (mkText (Lib.cut x.data.toList [58, 58]).2.1)).bind fun t152 => _)) = some r
  rw [ha, hb]
  simp only [Option.bind_some]
  split
  · split
    · split <;> exact ⟨_, rfl⟩
    · exact ⟨_, rfl⟩
  · exact ⟨_, rfl⟩
theorem lit1_some (x : ByteArray) (hx : x.size < 4294967281) : ∃ r, path_Literal_1.f x = some r := by
  unfold path_Literal_1.f
  rw [if_pos (by omega)]
  exact ⟨_, rfl⟩
theorem Literal_some (x : ByteArray) (hx : x.size < 4294967281) (k : Nat) (hk : x.size + 4 < k) : ∃ r, path_Literal.f k x = some r := by
  obtain ⟨k, rfl⟩ : ∃ k', k = k' + 1 := ⟨k - 1, by omega⟩
  have hj : ∀ b, ∃ r, path_Literal.j0 (k + 1) x b = some r ∨ b = true ∧ x.size < 5 := by
    intro b
    rw [path_Literal.j0]
    cases b with
    | true =>
      by_cases h5 : x.size < 5
      · exact ⟨true, .inr ⟨rfl, h5⟩⟩
      · obtain ⟨r, hr⟩ := six_some (x.extract 5 x.size) (by rw [ByteArray.size_extract]; omega)
        exact ⟨r, .inl (by rw [if_pos rfl, if_pos (by omega), hr]; rfl)⟩
    | false =>
      rw [if_neg (by decide), split_some x 46 hx]
      simp only [Option.bind_some]
      split
      · have hn := pieces_num 46 x
        obtain ⟨r, hr⟩ := litIdx_some 0 k (xs := (pieces 46 x.data.toList).map mkText) (fun y hy _ _ => lit1_some y (by have := pieces_size 46 x y hy; omega)) (by omega) (by omega)
        unfold slices_ContainsFunc_string_string_at_path_Literal_1.f
        rw [hr]
        exact ⟨_, .inl rfl⟩
      · exact ⟨_, .inl rfl⟩
  unfold path_Literal.f
  split
  · rename_i h5
    rw [if_pos (by decide), if_pos (by omega)]
    have hf : path_small.f (x.extract 0 5) = some (path_small.g (x.extract 0 5)) := by
      unfold path_small.f
      rw [if_pos]
      rw [ByteArray.size_extract]
      omega
    rw [hf]
    simp only [Option.bind_some]
    obtain ⟨r, hr | ⟨_, hr⟩⟩ := hj ((path_small.g (x.extract 0 5)).toList == ([105, 112, 118, 54, 58] : List UInt8))
    · exact ⟨r, hr⟩
    · omega
  · obtain ⟨r, hr | ⟨hr, _⟩⟩ := hj false
    · exact ⟨r, hr⟩
    · cases hr
def litB (w : ByteArray) : Bool := (path_Literal.f (w.size + 5) w).getD false
theorem Literal_eq (x : ByteArray) (hx : x.size < 4294967281) (k : Nat) (hk : x.size + 4 < k) : path_Literal.f k x = some (litB x) := by
  obtain ⟨r, hr⟩ := Literal_some x hx (x.size + 5) (by omega)
  have h1 : litB x = r := by unfold litB; rw [hr]; rfl
  rw [h1]
  exact at_rounds (fun k => path_Literal.mono x k) (by omega) hr
def boxL (l : List UInt8) : Bool × ByteArray × ByteArray × Bool × Nat :=
  if (localL l).1 = true then
    if nextIs 64 (l.drop (localL l).2.2) = true then
      if nextIs 91 (l.drop ((localL l).2.2 + 1)) = true then
        if nextIs 93 (l.drop ((localL l).2.2 + 2 + ((l.drop ((localL l).2.2 + 2)).takeWhile wordB).length)) = true then
          (litB (mkText ((l.drop ((localL l).2.2 + 2)).takeWhile wordB)), (localL l).2.1, path_small.g (mkText ((l.drop ((localL l).2.2 + 2)).takeWhile wordB)), true, (localL l).2.2 + 2 + ((l.drop ((localL l).2.2 + 2)).takeWhile wordB).length + 1)
        else (false, (localL l).2.1, path_small.g (mkText ((l.drop ((localL l).2.2 + 2)).takeWhile wordB)), true, (localL l).2.2 + 2 + ((l.drop ((localL l).2.2 + 2)).takeWhile wordB).length)
      else ((domL (l.drop ((localL l).2.2 + 1))).1, (localL l).2.1, (domL (l.drop ((localL l).2.2 + 1))).2.1, false, (localL l).2.2 + 1 + (domL (l.drop ((localL l).2.2 + 1))).2.2)
    else (false, ⟨#[]⟩, ⟨#[]⟩, false, (localL l).2.2)
  else (false, ⟨#[]⟩, ⟨#[]⟩, false, (localL l).2.2)
theorem nextIs_lt {c : UInt8} {s : ByteArray} {p : Nat} (h : nextIs c (rest s p) = true) : p < s.size := by
  have := nextIs_pos h
  rw [rest_length] at this
  omega
theorem box_eq (s : ByteArray) (hs : s.size < 4294967281) (k p : Nat) (hk : (rest s p).length + 6 < k) (hp : p ≤ s.size) :
    path_reader_box.f k s (p : Int) = some ((boxL (rest s p)).2.1, (boxL (rest s p)).2.2.1, (boxL (rest s p)).2.2.2.1, (boxL (rest s p)).1, s, ((p + (boxL (rest s p)).2.2.2.2 : Nat) : Int)) := by
  obtain ⟨k, rfl⟩ : ∃ k', k = k' + 1 := ⟨k - 1, by omega⟩
  have hrl := rest_length s p
  unfold path_reader_box.f boxL
  rw [local_eq s (by omega) (k + 1) p (by omega) hp]
  simp only [Option.bind_some]
  by_cases h1 : (localL (rest s p)).1 = true
  · have hle := localL_le _ h1
    rw [if_pos h1, if_pos h1, take_eq s _ 64 64 rfl (by omega)]
    simp only [Option.bind_some, rest_add]
    by_cases h2 : nextIs 64 ((rest s p).drop (localL (rest s p)).2.2) = true
    · have hl2 := nextIs_lt (by rw [rest_add]; exact h2)
      rw [if_pos h2, if_pos h2, h2, path_reader_box.j0, if_neg (by decide), take_eq s _ 91 91 rfl (by omega)]
      simp only [Option.bind_some]
      rw [Nat.add_assoc p, rest_add]
      by_cases h3 : nextIs 91 ((rest s p).drop ((localL (rest s p)).2.2 + 1)) = true
      · have hl3 := nextIs_lt (by rw [rest_add]; exact h3)
        rw [if_pos h3, if_pos h3, if_pos h3, Nat.add_assoc p, word_eq s (by omega) k _ (by rw [rest_length]; omega) (by omega), rest_add]
        simp only [Option.bind_some]
        have hw := takeWhile_le wordB ((rest s p).drop ((localL (rest s p)).2.2 + 1 + 1))
        rw [List.length_drop] at hw
        have hf : path_small.f (mkText (((rest s p).drop ((localL (rest s p)).2.2 + 1 + 1)).takeWhile wordB)) = some (path_small.g (mkText (((rest s p).drop ((localL (rest s p)).2.2 + 1 + 1)).takeWhile wordB))) := by
          unfold path_small.f
          rw [if_pos]
          rw [mkText_size]
          omega
        rw [hf]
        simp only [Option.bind_some]
        rw [take_eq s _ 93 93 rfl (by omega)]
        simp only [Option.bind_some]
        rw [Nat.add_assoc p, rest_add]
        by_cases h4 : nextIs 93 ((rest s p).drop ((localL (rest s p)).2.2 + 1 + 1 + (((rest s p).drop ((localL (rest s p)).2.2 + 1 + 1)).takeWhile wordB).length)) = true
        · rw [if_pos h4, if_pos h4, if_pos h4, Literal_eq _ (by rw [mkText_size]; omega) k (by rw [mkText_size]; omega)]
          rfl
        · rw [if_neg h4, if_neg h4, if_neg h4]
      · rw [if_neg h3, if_neg h3, if_neg h3, domain_eq s (by omega) k _ (by rw [rest_length]; omega) (by omega), rest_add]
        simp only [Option.bind_some]
        rw [Nat.add_assoc p]
    · rw [if_neg h2, if_neg h2, Bool.eq_false_iff.mpr h2, path_reader_box.j0, if_pos (show (!false) = true from rfl)]
  · rw [if_neg h1, if_neg h1, path_reader_box.j0, if_pos rfl]
def in1L (l : List UInt8) : Bool × ByteArray × Nat :=
  if nextIs 64 l = true then ((domL (l.drop 1)).1, (domL (l.drop 1)).2.1, 1 + (domL (l.drop 1)).2.2) else (false, (domL l).2.1, (domL l).2.2)
theorem in1L_le (l : List UInt8) : (in1L l).2.2 ≤ l.length := by
  unfold in1L
  split
  · rename_i h
    have h1 := nextIs_pos h
    have := domL_le (l.drop 1)
    rw [List.length_drop] at this
    show 1 + _ ≤ _
    omega
  · exact domL_le l
theorem in1_eq (s : ByteArray) (hs : s.size < 4294967281) (k p : Nat) (rs : List ByteArray) (hr : rs.length < 8000000000000) (hk : (rest s p).length + 1 < k) (hp : p ≤ s.size) :
    path_inner_1.f k s (p : Int) rs = some ((in1L (rest s p)).1, s, ((p + (in1L (rest s p)).2.2 : Nat) : Int), rs ++ [(in1L (rest s p)).2.1]) := by
  have hrl := rest_length s p
  unfold path_inner_1.f in1L
  rw [take_eq s p 64 64 rfl (by omega)]
  simp only [Option.bind_some]
  by_cases h : nextIs 64 (rest s p) = true
  · have h1 := nextIs_pos h
    rw [if_pos h, if_pos h, h, domain_eq s (by omega) k _ (by rw [rest_length]; omega) (by omega), rest_add]
    simp only [Option.bind_some]
    rw [if_pos hr, Bool.true_and, Nat.add_assoc]
  · rw [if_neg h, if_neg h, Bool.eq_false_iff.mpr h, domain_eq s (by omega) k _ hk hp]
    simp only [Option.bind_some]
    rw [if_pos hr, Bool.false_and]
def routeF : Nat → List UInt8 → Bool × List ByteArray × Nat
  | 0, _ => (false, [], 0)
  | n + 1, l => if (in1L l).1 = true then (if nextIs 44 (l.drop (in1L l).2.2) = true then ((routeF n (l.drop ((in1L l).2.2 + 1))).1, (in1L l).2.1 :: (routeF n (l.drop ((in1L l).2.2 + 1))).2.1, (in1L l).2.2 + 1 + (routeF n (l.drop ((in1L l).2.2 + 1))).2.2) else (true, [(in1L l).2.1], (in1L l).2.2)) else (false, [(in1L l).2.1], (in1L l).2.2)
def routeL (l : List UInt8) : Bool × List ByteArray × Nat := routeF (l.length + 1) l
theorem routeF_any : ∀ (n m : Nat) (l : List UInt8), l.length < n → l.length < m → routeF n l = routeF m l
  | 0, _, _, h, _ => absurd h (Nat.not_lt_zero _)
  | _, 0, _, _, h => absurd h (Nat.not_lt_zero _)
  | n + 1, m + 1, l, h1, h2 => by
    unfold routeF
    by_cases hp : (in1L l).1 = true
    · rw [if_pos hp, if_pos hp]
      by_cases hn : nextIs 44 (l.drop (in1L l).2.2) = true
      · have := nextIs_drop hn
        rw [if_pos hn, if_pos hn, routeF_any n m _ (by rw [List.length_drop]; omega) (by rw [List.length_drop]; omega)]
      · rw [if_neg hn, if_neg hn]
    · rw [if_neg hp, if_neg hp]
theorem routeL_eq (l : List UInt8) :
    routeL l = if (in1L l).1 = true then (if nextIs 44 (l.drop (in1L l).2.2) = true then ((routeL (l.drop ((in1L l).2.2 + 1))).1, (in1L l).2.1 :: (routeL (l.drop ((in1L l).2.2 + 1))).2.1, (in1L l).2.2 + 1 + (routeL (l.drop ((in1L l).2.2 + 1))).2.2) else (true, [(in1L l).2.1], (in1L l).2.2)) else (false, [(in1L l).2.1], (in1L l).2.2) := by
  unfold routeL
  rw [routeF]
  by_cases hp : (in1L l).1 = true
  · rw [if_pos hp, if_pos hp]
    by_cases hn : nextIs 44 (l.drop (in1L l).2.2) = true
    · have := nextIs_drop hn
      rw [if_pos hn, if_pos hn, routeF_any l.length ((l.drop ((in1L l).2.2 + 1)).length + 1) _ (by rw [List.length_drop]; omega) (by omega)]
    · rw [if_neg hn, if_neg hn]
  · rw [if_neg hp, if_neg hp]
theorem routeL_le : ∀ (n : Nat) (l : List UInt8), l.length < n → (routeL l).2.2 ≤ l.length
  | 0, _, h => absurd h (Nat.not_lt_zero _)
  | n + 1, l, h => by
    rw [routeL_eq]
    have hl := in1L_le l
    by_cases hp : (in1L l).1 = true
    · rw [if_pos hp]
      by_cases hn : nextIs 44 (l.drop (in1L l).2.2) = true
      · have h1 := nextIs_drop hn
        have h2 := routeL_le n (l.drop ((in1L l).2.2 + 1)) (by rw [List.length_drop]; omega)
        rw [List.length_drop] at h2
        rw [if_pos hn]
        show _ + 1 + _ ≤ _
        omega
      · rw [if_neg hn]
        exact hl
    · rw [if_neg hp]
      exact hl
theorem route_run (s : ByteArray) (hs : s.size < 4294967281) : ∀ (k p : Nat) (rs : List ByteArray), (rest s p).length + 2 < k → p ≤ s.size → rs.length + (rest s p).length ≤ s.size →
    path_list_inner.l0 k s (p : Int) rs = some ((routeL (rest s p)).1, s, ((p + (routeL (rest s p)).2.2 : Nat) : Int), rs ++ (routeL (rest s p)).2.1)
  | 0, p, _, h, _, _ => absurd h (by omega)
  | k + 1, p, rs, h, hp, hr => by
    have hle := in1L_le (rest s p)
    have hrl := rest_length s p
    unfold path_list_inner.l0
    rw [in1_eq s hs k p rs (by omega) (by omega) hp, routeL_eq]
    simp only [Option.bind_some]
    by_cases h1 : (in1L (rest s p)).1 = true
    · rw [if_pos h1, if_pos h1, take_eq s _ 44 44 rfl (by omega)]
      simp only [Option.bind_some, rest_add]
      by_cases h2 : nextIs 44 ((rest s p).drop (in1L (rest s p)).2.2) = true
      · have h3 := nextIs_drop h2
        rw [if_pos h2, if_pos h2, if_pos h2]
        have h4 := route_run s hs k (p + (in1L (rest s p)).2.2 + 1) (rs ++ [(in1L (rest s p)).2.1]) (by rw [rest_length]; omega) (by omega) (by rw [rest_length, List.length_append]; simp; omega)
        rw [h4, Nat.add_assoc p, rest_add, List.append_assoc]
        congr 4
        dsimp only
        omega
      · rw [if_neg h2, if_neg h2, if_neg h2]
    · rw [if_neg h1, if_neg h1]
def isAloneL (l : List UInt8) : Bool := decide (10 < l.length) && (path_small.g (mkText (l.take 10))).toList == ([112, 111, 115, 116, 109, 97, 115, 116, 101, 114] : List UInt8) && nextIs 62 (l.drop 10)
theorem isAlone_eq (s : ByteArray) (p : Nat) (_hp : p ≤ s.size) : isAlone s (p : Int) = isAloneL (rest s p) := by
  have hrl := rest_length s p
  unfold isAlone isAloneL
  by_cases h : p + 10 < s.size
  · rw [decide_eq_true (by omega), decide_eq_true (by omega)]
    have e : s.extract ((p : Int)).toNat ((p : Int) + 10).toNat = mkText ((rest s p).take 10) := by
      rw [show ((p : Int) + 10).toNat = p + 10 from by omega, Int.toNat_natCast, extract_rest _ _ _ (by omega), Nat.add_sub_cancel_left]
    rw [e]
    congr 1
    rw [← rest_add]
    cases hr : rest s (p + 10) with
    | nil =>
      have := rest_nil hr
      omega
    | cons b l =>
      obtain ⟨_, h2, _⟩ := rest_cons hr
      rw [show ((p : Int) + 10) = ((p + 10 : Nat) : Int) from by omega, h2]
      show ((b.toNat : Int) == 62) = (b == 62)
      by_cases hb : b = 62
      · subst hb; rfl
      · rw [beq_eq_false_iff_ne.mpr hb, beq_eq_false_iff_ne.mpr (show (b.toNat : Int) ≠ 62 from fun h => hb (toNat_eq (b := 62) h))]
  · rw [decide_eq_false (by omega), decide_eq_false (by omega)]
    rfl
def innerL (l : List UInt8) : Bool × List ByteArray × ByteArray × ByteArray × Bool × Nat :=
  if isAloneL l = true then (true, [], aloneText, ⟨#[]⟩, false, 10)
  else if nextIs 64 l = true then
    (if (routeL l).1 = true then
      (if nextIs 58 (l.drop (routeL l).2.2) = true then
        ((boxL (l.drop ((routeL l).2.2 + 1))).1, (routeL l).2.1, (boxL (l.drop ((routeL l).2.2 + 1))).2.1, (boxL (l.drop ((routeL l).2.2 + 1))).2.2.1, (boxL (l.drop ((routeL l).2.2 + 1))).2.2.2.1, (routeL l).2.2 + 1 + (boxL (l.drop ((routeL l).2.2 + 1))).2.2.2.2)
      else (false, [], ⟨#[]⟩, ⟨#[]⟩, false, (routeL l).2.2))
    else (false, [], ⟨#[]⟩, ⟨#[]⟩, false, (routeL l).2.2))
  else ((boxL l).1, [], (boxL l).2.1, (boxL l).2.2.1, (boxL l).2.2.2.1, (boxL l).2.2.2.2)
theorem inner3_eq (s : ByteArray) (hs : s.size < 4294967281) (k p : Nat) (rs : List ByteArray) (hk : (rest s p).length + 6 < k) (hp : p ≤ s.size) :
    path_inner.f3 k s (p : Int) rs = some (false, rs, (boxL (rest s p)).2.1, (boxL (rest s p)).2.2.1, (boxL (rest s p)).2.2.2.1, (boxL (rest s p)).1, s, ((p + (boxL (rest s p)).2.2.2.2 : Nat) : Int)) := by
  unfold path_inner.f3
  rw [box_eq s hs k p hk hp]
  rfl
theorem peek_is (l : List UInt8) : ((peekL l).toNat : Int) = 64 ↔ nextIs 64 l = true := by
  cases l with
  | nil => simp [peekL, nextIs]
  | cons b l =>
    show (b.toNat : Int) = 64 ↔ (b == 64) = true
    rw [beq_iff_eq]
    exact ⟨fun h => toNat_eq (b := 64) h, fun h => by rw [h]; rfl⟩
theorem inner_eq (s : ByteArray) (hs : s.size < 4294967281) (k p : Nat) (hk : (rest s p).length + 6 < k) (hp : p ≤ s.size) :
    path_inner.f k s (p : Int) = some (false, (innerL (rest s p)).2.1, (innerL (rest s p)).2.2.1, (innerL (rest s p)).2.2.2.1, (innerL (rest s p)).2.2.2.2.1, (innerL (rest s p)).1, s, ((p + (innerL (rest s p)).2.2.2.2.2 : Nat) : Int)) := by
  have hrl := rest_length s p
  unfold path_inner.f innerL
  rw [if_pos ⟨by omega, by omega, by omega⟩, isAlone_eq s p hp]
  by_cases h0 : isAloneL (rest s p) = true
  · rw [if_pos h0, if_pos h0]
    rfl
  · rw [if_neg h0, if_neg h0]
    unfold path_inner.f2
    rw [peek_eq]
    simp only [Option.bind_some]
    by_cases h1 : nextIs 64 (rest s p) = true
    · have hle := routeL_le _ (rest s p) (Nat.lt_succ_self _)
      rw [if_pos ((peek_is _).mpr h1), if_pos h1, route_run s hs k p [] (by omega) hp (by simp; omega)]
      simp only [Option.bind_some]
      by_cases h2 : (routeL (rest s p)).1 = true
      · rw [if_pos h2, if_pos h2, take_eq s _ 58 58 rfl (by omega)]
        simp only [Option.bind_some, rest_add]
        by_cases h3 : nextIs 58 ((rest s p).drop (routeL (rest s p)).2.2) = true
        · have h3' := nextIs_drop h3
          rw [if_pos h3, if_pos h3, if_pos h3, Nat.add_assoc p, inner3_eq s hs k _ _ (by rw [rest_length]; omega) (by omega), rest_add, List.nil_append, Nat.add_assoc p]
        · rw [if_neg h3, if_neg h3, if_neg h3]
      · rw [if_neg h2, if_neg h2]
    · rw [if_neg (fun h => h1 ((peek_is _).mp h)), if_neg h1, inner3_eq s hs k p [] hk hp]
theorem short_some (x : ByteArray) (k : Nat) (hk : x.size + 2 < k) : ∃ r, path_short.f k x = some r := by
  unfold path_short.f
  split
  · rename_i h
    have hn := pieces_num 46 x
    rw [split_some x 46 (by omega)]
    simp only [Option.bind_some]
    obtain ⟨r, hr⟩ := shortIdx_some 0 k (xs := (pieces 46 x.data.toList).map mkText) (fun y _ _ _ => ⟨_, rfl⟩) (by omega) (by omega)
    unfold slices_ContainsFunc_string_string_at_path_short_1.f
    rw [hr]
    exact ⟨_, rfl⟩
  · exact ⟨_, rfl⟩
end Go.Proofs.YtokpnfljjjjikaaGreatDoor.PathL
