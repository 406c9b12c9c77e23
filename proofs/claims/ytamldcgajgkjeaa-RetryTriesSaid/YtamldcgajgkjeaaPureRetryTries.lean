import Derived.Test.YtamldcgajgkjeaaQRetryx12
import Derived.Test.YtamldcgajgkjeaaPureRetryDue
/- The pure statement of RetryTries: how often a recipient is tried. -/
namespace Go.Proofs.Ytamldcgajgkjeaa.Pure
open Go.RowKit Go.Proofs.Ytamldcgajgkjeaa.QRetry Go.Proofs.YtamldcgajgkjeaaW.PrintWords Go.Proofs.YtamldcgajgkjeaaW.PrintLast Go.Proofs.YtamldcgajgkjeaaW.PrintMore

/-- How many waits, one behind the other, come to no more than what is left. -/
def M : List Int → Int → Int → Int
  | [], last, left => left / last
  | w :: ws, last, left => if w > left then 0 else 1 + M ws last (left - w)

theorem wf_u8 {x : Int} (h : (Lit.int .u8 x).wf = true) : 0 ≤ x ∧ x ≤ 255 := by
  simp [Lit.wf, IntKind.min, IntKind.max, IntKind.bits, IntKind.signed] at h; omega
theorem wf_u32 {x : Int} (h : (Lit.int .u32 x).wf = true) : 0 ≤ x ∧ x ≤ 4294967295 := by
  simp [Lit.wf, IntKind.min, IntKind.max, IntKind.bits, IntKind.signed] at h; omega

theorem M_bounds : ∀ (ws : List Int) (last left : Int), (∀ x ∈ ws, 1 ≤ x) → 1 ≤ last → 0 ≤ left → 0 ≤ M ws last left ∧ M ws last left ≤ left
  | [], last, left, _, hl, h0 => ⟨Int.ediv_nonneg h0 (by omega), Int.ediv_le_self _ h0⟩
  | w :: ws, last, left, hw, hl, h0 => by
    unfold M
    have h1 := hw w (by simp)
    by_cases h : w > left
    · rw [if_pos h]; omega
    · rw [if_neg h]
      have := M_bounds ws last (left - w) (fun x hx => hw x (by simp [hx])) hl (by omega)
      omega

theorem M_short (f : Int → Int) : ∀ (ws : List Int) (last last' left left' : Int), (∀ x ∈ ws, 1 ≤ f x ∧ f x ≤ x) → 1 ≤ last' → last' ≤ last → 0 ≤ left → left ≤ left' →
    M ws last left ≤ M (ws.map f) last' left'
  | [], last, last', left, left', _, h1, h2, h3, h4 => by
    show left / last ≤ left' / last'
    have a : left / last ≤ left' / last := Int.ediv_le_ediv (by omega) h4
    have b : left' / last ≤ left' / last' := by
      rw [Int.le_ediv_iff_mul_le (by omega)]
      have c := Int.ediv_mul_le left' (show last ≠ 0 by omega)
      have d : 0 ≤ left' / last := Int.ediv_nonneg (by omega) (by omega)
      have e : left' / last * last' ≤ left' / last * last := Int.mul_le_mul_of_nonneg_left h2 d
      omega
    omega
  | w :: ws, last, last', left, left', hw, h1, h2, h3, h4 => by
    have hf := hw w (by simp)
    have hr : ∀ x ∈ ws, 1 ≤ f x ∧ f x ≤ x := fun x hx => hw x (by simp [hx])
    simp only [List.map_cons, M]
    by_cases h : w > left
    · rw [if_pos h]
      split
      · omega
      · have := M_bounds (ws.map f) last' (left' - f w) (by intro x hx; rw [List.mem_map] at hx; obtain ⟨y, hy, rfl⟩ := hx; exact (hr y hy).1) h1 (by omega)
        omega
    · rw [if_neg h, if_neg (by omega)]
      have := M_short f ws last last' (left - w) (left' - f w) hr h1 h2 (by omega) (by omega)
      omega

theorem M_same (w left : Int) (hw : 1 ≤ w) (h0 : 0 ≤ left) : ∀ m, M (List.replicate m w) w left = left / w := by
  intro m
  induction m generalizing left with
  | zero => rfl
  | succ m ih =>
    rw [List.replicate_succ]
    unfold M
    by_cases h : w > left
    · rw [if_pos h, Int.ediv_eq_zero_of_lt h0 h]
    · rw [if_neg h, ih (left - w) (by omega)]
      have : left / w = (left - w + 1 * w) / w := by congr 1; omega
      rw [this, Int.add_mul_ediv_right _ _ (by omega)]
      omega

def lastOf (l : List Int) : Int := rd l ((l.length : Int) - 1)

theorem rd_mem {l : List Int} {i : Int} (h0 : 0 ≤ i) (h1 : i < l.length) : rd l i ∈ l := by
  unfold rd
  have hi : i.toNat < l.length := by omega
  rw [List.getD_eq_getElem?_getD, List.getElem?_eq_getElem hi]
  exact List.getElem_mem hi

theorem most_loop (l : List Int) (hl : l.length ≤ 50) (h1 : 1 ≤ l.length) (hg : ∀ x ∈ l, good x) : ∀ (d k n : Nat) (left many : Int), n + d = l.length → d < k → 0 ≤ left → left ≤ 1099511627776 → 0 ≤ many → many ≤ n →
    retry_Most.l0 k l left many l (l.length : Int) (n : Int) = some (many + M (l.drop n) (lastOf l) left + 2) := by
  intro d
  have hgl : good (lastOf l) := hg _ (rd_mem (by omega) (by omega))
  unfold good at hgl
  induction d with
  | zero =>
    intro k n left many hn hk h0 h2 h3 h4
    obtain ⟨k, rfl⟩ : ∃ m, k = m + 1 := ⟨k - 1, by omega⟩
    simp only [retry_Most.l0]
    rw [if_neg (by omega), show wrap64 ((l.length : Int) - 1) = (l.length : Int) - 1 from by unfold wrap64; omega, if_pos (by omega), if_pos (by omega)]
    have e : rd l ((l.length : Int) - 1) = lastOf l := rfl
    rw [e, if_neg (by omega), List.drop_of_length_le (by omega)]
    have e2 : Int.tdiv left (lastOf l) = left / lastOf l := Int.tdiv_eq_ediv_of_nonneg h0
    have b := M_bounds [] (lastOf l) left (by simp) hgl.1 h0
    unfold M at b ⊢
    rw [e2]
    congr 1
    unfold wrap64
    omega
  | succ d ih =>
    intro k n left many hn hk h0 h2 h3 h4
    obtain ⟨k, rfl⟩ : ∃ m, k = m + 1 := ⟨k - 1, by omega⟩
    have hlt : n < l.length := by omega
    have hrd : rd l (n : Int) = l[n] := by unfold rd; simp [List.getD_eq_getElem?_getD, List.getElem?_eq_getElem hlt]
    have hdr : l.drop n = l[n] :: l.drop (n + 1) := List.drop_eq_getElem_cons hlt
    have hgn := hg l[n] (List.getElem_mem hlt)
    unfold good at hgn
    simp only [retry_Most.l0]
    rw [if_pos (by omega), if_pos (by omega), if_pos (by omega), hrd, hdr]
    simp only [M]
    by_cases h : l[n] > left
    · rw [if_pos h, if_pos h]
      congr 1
      unfold wrap64
      omega
    · rw [if_neg h, if_neg h, show wrap64 (left - l[n]) = left - l[n] from by unfold wrap64; omega, show wrap64 (many + 1) = many + 1 from by unfold wrap64; omega, show wrap64 ((n : Int) + 1) = ((n + 1 : Nat) : Int) from by unfold wrap64; omega]
      rw [ih k (n + 1) (left - l[n]) (many + 1) (by omega) (by omega) (by omega) (by omega) (by omega) (by omega)]
      congr 1
      omega

theorem most_eq (l : List Int) (a : Int) (h : Rt l a) (k : Nat) (hk : 60 ≤ k) : retry_Most.f k l a = some (M l (lastOf l) (a - 1) + 2) := by
  obtain ⟨h1, h2, h3, h4⟩ := h
  unfold retry_Most.f
  rw [right_eq l a k (by omega)]
  simp only [Option.bind_some]
  rw [if_pos (by rw [decide_eq_true_iff]; exact ⟨h1, h2, h3, h4⟩)]
  unfold good at h3
  rw [show wrap64 (a - 1) = a - 1 from by unfold wrap64; omega]
  have := most_loop l h2 h1 h4 l.length k 0 (a - 1) 0 (by omega) (by omega) (by omega) (by omega) (by omega) (by omega)
  simp only [Int.natCast_zero, List.drop_zero, Int.zero_add] at this
  exact this

theorem lastOf_map (f : Int → Int) (l : List Int) (h : 1 ≤ l.length) : lastOf (l.map f) = f (lastOf l) := by
  unfold lastOf rd
  rw [List.length_map]
  have hi : ((l.length : Int) - 1).toNat < l.length := by omega
  rw [List.getD_eq_getElem?_getD, List.getD_eq_getElem?_getD, List.getElem?_eq_getElem hi, List.getElem?_eq_getElem (by simpa using hi)]
  simp

/-- What waitsOf tells of numbers. -/
def waits (l : List Int) : List Int := if l.length = 0 then [1] else (l.take 50).map (fun x => 1 + x)

theorem waits_loop (t : List Int) (ht : t.length ≤ 50) (hb : ∀ x ∈ t, 0 ≤ x ∧ x ≤ 255) : ∀ (d k n : Nat) (acc : List Int), n + d = t.length → d < k → acc.length ≤ 50 → (1 ≤ n → acc = (t.take n).map (fun x => 1 + x)) →
    frankinglaw28_waitsOf.l0 k acc t (t.length : Int) (n : Int) = some (if t.length = 0 then acc else t.map (fun x => 1 + x)) := by
  intro d
  induction d with
  | zero =>
    intro k n acc hn hk hacc ha
    obtain ⟨k, rfl⟩ : ∃ m, k = m + 1 := ⟨k - 1, by omega⟩
    simp only [frankinglaw28_waitsOf.l0]
    rw [if_neg (by omega)]
    by_cases h0 : t.length = 0
    · rw [if_pos h0]
    · rw [if_neg h0, ha (by omega), List.take_of_length_le (by omega)]
  | succ d ih =>
    intro k n acc hn hk hacc ha
    obtain ⟨k, rfl⟩ : ∃ m, k = m + 1 := ⟨k - 1, by omega⟩
    have hlt : n < t.length := by omega
    have hrd : rd t (n : Int) = t[n] := by unfold rd; simp [List.getD_eq_getElem?_getD, List.getElem?_eq_getElem hlt]
    have hbn := hb t[n] (List.getElem_mem hlt)
    simp only [frankinglaw28_waitsOf.l0]
    rw [if_pos (by omega), if_pos (by omega), if_pos (by omega), hrd, show wrap64 (1 + wrap64 t[n]) = 1 + t[n] from by unfold wrap64; omega, show wrap64 ((n : Int) + 1) = ((n + 1 : Nat) : Int) from by unfold wrap64; omega]
    by_cases h0 : n = 0
    · subst h0
      rw [if_pos (by omega), if_pos (by simp), ih k 1 _ (by omega) (by omega) (by simp) (fun _ => by rw [List.take_succ_eq_append_getElem hlt, List.map_append]; rfl)]
      rw [if_neg (by omega), if_neg (by omega)]
    · rw [if_neg (by omega), if_pos (by omega), ih k (n + 1) _ (by omega) (by omega) (by simp [ha (by omega)]; omega) (fun _ => by rw [ha (by omega), List.take_succ_eq_append_getElem hlt, List.map_append]; rfl)]
      rw [if_neg (by omega), if_neg (by omega)]

theorem waits_eq (l : List Int) (hl : l.length ≤ 140737488351232) (hb : ∀ x ∈ l, 0 ≤ x ∧ x ≤ 255) (k : Nat) (hk : 60 ≤ k) : frankinglaw28_waitsOf.f k l = some (waits l) := by
  unfold frankinglaw28_waitsOf.f
  have m := mn_le (l.length : Int) 50
  rw [if_pos (by omega), if_pos (by omega)]
  have e : l.take (mn (l.length : Int) 50).toNat = l.take 50 := by
    rcases m.2.2 with h | h
    · rw [h, List.take_of_length_le (by omega), List.take_of_length_le (by omega)]
    · rw [h]; rfl
  rw [e]
  have := waits_loop (l.take 50) (by rw [List.length_take]; omega) (fun x hx => hb x (List.mem_of_mem_take hx)) (l.take 50).length k 0 [1] (by omega) (by rw [List.length_take]; omega) (by simp) (fun h => by omega)
  simp only [Int.natCast_zero] at this
  rw [this]
  unfold waits
  by_cases h0 : l.length = 0
  · rw [if_pos (by rw [List.length_take]; omega), if_pos h0]
  · rw [if_neg (by rw [List.length_take]; omega), if_neg h0]

theorem waits_good (l : List Int) (hb : ∀ x ∈ l, 0 ≤ x ∧ x ≤ 255) : 1 ≤ (waits l).length ∧ (waits l).length ≤ 50 ∧ ∀ x ∈ waits l, 1 ≤ x ∧ x ≤ 256 := by
  unfold waits
  by_cases h0 : l.length = 0
  · rw [if_pos h0]; simp
  · rw [if_neg h0]
    refine ⟨by simp; omega, by simp; omega, ?_⟩
    intro x hx
    rw [List.mem_map] at hx
    obtain ⟨y, hy, rfl⟩ := hx
    have := hb y (List.mem_of_mem_take hy)
    omega

def half (x : Int) : Int := (x + 1) / 2

/-- The loop that makes the waits shorter; what stands behind it is R. -/
theorem half_loop (x3 x10 x11 : Int) (L : Nat) (hL : L ≤ 50) : ∀ (d k n : Nat) (ys : List Int), ys.length = L → n + d = L → d + 70 ≤ k → (∀ x ∈ ys, 1 ≤ x ∧ x ≤ 256) →
    (∀ k', 70 ≤ k' → frankinglaw28_RetryTries.l0 k' x3 x10 x11 (ys.take n ++ (ys.drop n).map half) (L : Int) (L : Int) = some true) →
    frankinglaw28_RetryTries.l0 k x3 x10 x11 ys (L : Int) (n : Int) = some true := by
  intro d
  induction d with
  | zero =>
    intro k n ys hy hn hk hb hR
    have : n = L := by omega
    subst this
    have h2 := hR k (by omega)
    rw [List.drop_of_length_le (by omega), List.take_of_length_le (by omega)] at h2
    simpa using h2
  | succ d ih =>
    intro k n ys hy hn hk hb hR
    obtain ⟨k, rfl⟩ : ∃ m, k = m + 1 := ⟨k - 1, by omega⟩
    have hlt : n < ys.length := by omega
    have hrd : rd ys (n : Int) = ys[n] := by unfold rd; simp [List.getD_eq_getElem?_getD, List.getElem?_eq_getElem hlt]
    have hbn := hb ys[n] (List.getElem_mem hlt)
    simp only [frankinglaw28_RetryTries.l0]
    rw [if_pos (by omega), if_pos (by omega), if_pos (by omega), hrd, show wrap64 ((n : Int) + 1) = ((n + 1 : Nat) : Int) from by unfold wrap64; omega]
    have e : wrap64 (Int.tdiv (wrap64 (ys[n] + 1)) 2) = half ys[n] := by
      rw [show wrap64 (ys[n] + 1) = ys[n] + 1 from by unfold wrap64; omega, Int.tdiv_eq_ediv_of_nonneg (by omega)]
      unfold half wrap64; omega
    rw [e, show ((n : Int)).toNat = n from by simp]
    refine ih k (n + 1) (ys.set n (half ys[n])) (by simpa using hy) (by omega) (by omega) ?_ ?_
    · intro x hx
      rcases List.mem_or_eq_of_mem_set hx with h | h
      · exact hb x h
      · subst h; unfold half; omega
    · intro k' hk'
      have := hR k' hk'
      rw [show (ys.set n (half ys[n])).take (n + 1) ++ ((ys.set n (half ys[n])).drop (n + 1)).map half = ys.take n ++ (ys.drop n).map half from ?_]
      · exact this
      · rw [List.drop_set_of_lt (by omega), List.drop_eq_getElem_cons hlt, List.map_cons, List.take_succ_eq_append_getElem (by simpa using hlt)]
        simp [List.take_set]
        exact List.set_eq_of_length_le (by rw [List.length_take]; omega)

theorem RetryTries : frankinglaw28_RetryTries.Pure := by
  intro l life more one hl hl8 hw h1 h2 h3
  have hb : ∀ x ∈ l, 0 ≤ x ∧ x ≤ 255 := by
    exact fun x hx => wf_u8 (hw x hx)
  have b1 : 0 ≤ life ∧ life ≤ 4294967295 := wf_u32 h1
  have b2 : 0 ≤ more ∧ more ≤ 4294967295 := wf_u32 h2
  have b3 : 0 ≤ one ∧ one ≤ 4294967295 := wf_u32 h3
  refine ⟨200, ?_⟩
  unfold frankinglaw28_RetryTries.f
  rw [waits_eq l (by omega) hb 200 (by omega)]
  simp only [Option.bind_some]
  obtain ⟨w1, w2, w3⟩ := waits_good l hb
  generalize waits l = ws at w1 w2 w3 ⊢
  have e1 : wrap64 (1 + wrap64 life) = 1 + life := by unfold wrap64; omega
  have e2 : wrap64 (1 + life + wrap64 more) = 1 + life + more := by unfold wrap64; omega
  rw [e1, e2]
  have r1 : ∀ n : Int, 1 ≤ n → n ≤ 1099511627776 → Rt ws n := fun n a b => ⟨w1, w2, ⟨a, b⟩, fun x hx => by have := w3 x hx; unfold good; omega⟩
  have hlast : 1 ≤ lastOf ws ∧ lastOf ws ≤ 256 := w3 _ (rd_mem (by omega) (by omega))
  rw [most_eq ws (1 + life) (r1 _ (by omega) (by omega)) 200 (by omega), most_eq ws (1 + life + more) (r1 _ (by omega) (by omega)) 200 (by omega)]
  simp only [Option.bind_some]
  have mb := M_bounds ws (lastOf ws) (1 + life - 1) (fun x hx => (w3 x hx).1) hlast.1 (by omega)
  have mm := M_short id ws (lastOf ws) (lastOf ws) (1 + life - 1) (1 + life + more - 1) (fun x hx => ⟨(w3 x hx).1, Int.le_refl _⟩) hlast.1 (Int.le_refl _) (by omega) (by omega)
  rw [List.map_id] at mm
  rw [if_neg (by omega), decide_eq_false (by omega)]
  simp only [frankinglaw28_RetryTries.j0]
  rw [if_neg (by simp)]
  simp only [Option.bind_some, List.nil_append, List.length_nil]
  rw [if_pos (by omega)]
  refine half_loop one (1 + life) _ ws.length w2 ws.length 199 0 ws rfl (by omega) (by omega) w3 ?_
  intro k hk
  obtain ⟨k, rfl⟩ : ∃ m, k = m + 1 := ⟨k - 1, by omega⟩
  simp only [frankinglaw28_RetryTries.l0, List.take_zero, List.drop_zero, List.nil_append]
  rw [if_neg (by omega)]
  have hh : ∀ x ∈ ws, 1 ≤ half x ∧ half x ≤ x := fun x hx => by have := w3 x hx; unfold half; omega
  have rs : Rt (ws.map half) (1 + life) := ⟨by simpa using w1, by simpa using w2, ⟨by omega, by omega⟩, fun x hx => by
    rw [List.mem_map] at hx; obtain ⟨y, hy, rfl⟩ := hx; have a := hh y hy; have b := w3 y hy; unfold good; omega⟩
  rw [most_eq _ _ rs k (by omega)]
  simp only [Option.bind_some]
  have hhl := hh (lastOf ws) (rd_mem (by omega) (by omega))
  have ms := M_short half ws (lastOf ws) (lastOf (ws.map half)) (1 + life - 1) (1 + life - 1) hh (by rw [lastOf_map _ _ w1]; exact hhl.1) (by rw [lastOf_map _ _ w1]; exact hhl.2) (by omega) (Int.le_refl _)
  rw [if_pos (by omega)]
  have e3 : wrap64 (1 + wrap64 one) = 1 + one := by unfold wrap64; omega
  rw [e3]
  have ro : ∀ m : Nat, 1 ≤ m → m ≤ 50 → Rt (List.replicate m (1 + one)) (1 + life) := fun m a b => ⟨by simpa using a, by simpa using b, ⟨by omega, by omega⟩, fun x hx => by
    have := List.eq_of_mem_replicate hx; subst this; unfold good; omega⟩
  have lr : ∀ m : Nat, 1 ≤ m → lastOf (List.replicate m (1 + one)) = 1 + one := fun m a => List.eq_of_mem_replicate (rd_mem (l := List.replicate m (1 + one)) (by simp; omega) (by simp; omega))
  have q1 : retry_Most.f k [1 + one] (1 + life) = some ((1 + life - 1) / (1 + one) + 2) := by
    have := most_eq (List.replicate 1 (1 + one)) (1 + life) (ro 1 (by omega) (by omega)) k (by omega)
    rw [lr 1 (by omega), M_same _ _ (by omega) (by omega)] at this
    exact this
  have q3 : retry_Most.f k [1 + one, 1 + one, 1 + one] (1 + life) = some ((1 + life - 1) / (1 + one) + 2) := by
    have := most_eq (List.replicate 3 (1 + one)) (1 + life) (ro 3 (by omega) (by omega)) k (by omega)
    rw [lr 3 (by omega), M_same _ _ (by omega) (by omega)] at this
    exact this
  rw [q1, q3]
  simp only [Option.bind_some]
  have e4 : wrap64 (wrap64 (Int.tdiv (wrap64 (1 + life - 1)) (1 + one)) + 2) = (1 + life - 1) / (1 + one) + 2 := by
    rw [show wrap64 (1 + life - 1) = 1 + life - 1 from by unfold wrap64; omega, Int.tdiv_eq_ediv_of_nonneg (by omega)]
    have a : 0 ≤ (1 + life - 1) / (1 + one) := Int.ediv_nonneg (by omega) (by omega)
    have b : (1 + life - 1) / (1 + one) ≤ 1 + life - 1 := Int.ediv_le_self _ (by omega)
    unfold wrap64
    omega
  rw [e4, if_neg (by omega), if_pos rfl, if_pos rfl, awake_28 k (by omega)]
  rfl
end Go.Proofs.Ytamldcgajgkjeaa.Pure
