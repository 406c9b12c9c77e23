/- What Right tells is so: a path that is right is one that may be written. -/
import Derived.Test.YtokpnfljjjjikaaGreatDoorPWrite
import Derived.Test.YtokpnfljjjjikaaGreatDoorQPathx15
namespace Go.Proofs.YtokpnfljjjjikaaGreatDoor.PathL
open Go.RowKit Go.Proofs.YtokpnfljjjjikaaGreatDoor Go.Proofs.YtokpnfljjjjikaaGreatDoor.QPath Go.Proofs.YtokpnfljjjjikaaGreatDoorW.PrintWords Go.Proofs.YtokpnfljjjjikaaGreatDoorW.PrintMore
set_option linter.unusedVariables false
set_option linter.unusedSimpArgs false

theorem small_val (d : List UInt8) (hl : d.length < 4294967281) : path_small.f (mkText d) = some (mkText (d.map lowB)) := by
  unfold path_small.f
  rw [if_pos (by rw [mkText_size]; omega), small_mk]
instance (d : List UInt8) : Decidable (DomOK d) := by unfold DomOK; infer_instance
theorem Domain_val (d : List UInt8) (hl : d.length < 4294967281) (k : Nat) (hk : d.length + 3 < k) : path_Domain.f k (mkText d) = some (decide (listL labelL 46 d = (true, d.length)) && shortB (mkText d)) := by
  unfold path_Domain.f
  have h1 := domain_eq (mkText d) (by rw [mkText_size]; omega) k 0 (by rw [rest_mk]; omega) (Nat.zero_le _)
  rw [rest_mk] at h1
  rw [show (0 : Int) = ((0 : Nat) : Int) from rfl, h1]
  simp only [Option.bind_some, Nat.zero_add]
  have e1 : (domL d).1 = (listL labelL 46 d).1 := rfl
  have e2 : (domL d).2.2 = (listL labelL 46 d).2 := rfl
  rw [e1, e2]
  by_cases h2 : (listL labelL 46 d).1 = true
  · rw [if_pos h2]
    by_cases h3 : (listL labelL 46 d).2 = d.length
    · rw [if_pos (by rw [mkText_size]; omega), short_eq _ k (by rw [mkText_size]; omega), decide_eq_true (Prod.ext h2 h3)]
      rfl
    · rw [if_neg (by rw [mkText_size]; omega), decide_eq_false (fun e => h3 (by rw [e]))]
      rfl
  · rw [if_neg h2, decide_eq_false (fun e => h2 (by rw [e]))]
    rfl
theorem lean_val (d : List UInt8) (hl : d.length < 4294967281) (k : Nat) (hk : d.length + 3 < k) : path_lean.f k (mkText d) = some (decide (DomOK d) && shortB (mkText d)) := by
  unfold path_lean.f
  rw [Domain_val d hl k hk]
  simp only [Option.bind_some]
  by_cases h1 : listL labelL 46 d = (true, d.length)
  · rw [decide_eq_true h1, Bool.true_and]
    cases hs : shortB (mkText d) with
    | true =>
      rw [if_pos rfl, small_val d hl]
      simp only [Option.bind_some]
      rw [toList_mk, toList_mk, Bool.and_true]
      by_cases h2 : d.map lowB = d
      · rw [h2, decide_eq_true ⟨h1, h2⟩]
        simp
      · rw [decide_eq_false (fun h : DomOK d => h2 h.2)]
        simp [h2]
    | false =>
      rw [if_neg (by decide), Bool.and_false]
  · rw [decide_eq_false h1, Bool.false_and, if_neg (by decide), decide_eq_false (fun h : DomOK d => h1 h.1)]
    rfl
def boxTail (lo dom : List UInt8) (lit : Bool) : Bool :=
  decide (lo.length ≤ 64) && (if lit = true then litL dom && decide (dom.map lowB = dom) else shortB (mkText dom) && decide (DomOK dom))
def fineB (b : UInt8) : Bool := decide (Fine b)
theorem boxed_val (lo dom : List UInt8) (lit : Bool) (hlo : lo.length < 4294967281) (hl : dom.length < 4294967281) : ∀ (k i : Nat), lo.length - i + dom.length + 6 < k → i ≤ lo.length →
    path_boxed.l0 k (lo.length : Int) (i : Int) (mkText lo) (mkText dom) lit = some ((lo.drop i).all fineB && boxTail lo dom lit)
  | 0, _, h, _ => absurd h (Nat.not_lt_zero _)
  | k + 1, i, hk, hi => by
    unfold path_boxed.l0
    by_cases hlt : i < lo.length
    · have hd : lo.drop i = lo[i] :: lo.drop (i + 1) := List.drop_eq_getElem_cons hlt
      have hb : bt (mkText lo) (i : Int) = (lo[i].toNat : Int) := by
        rw [bt_mk lo i hlt, List.getD_eq_getElem?_getD, List.getElem?_eq_getElem hlt]
        rfl
      rw [if_pos (by omega), if_pos (by omega), if_pos (by rw [mkText_size]; omega), hb, hd, List.all_cons]
      by_cases h1 : lo[i] < 32
      · rw [if_pos (lt32.mpr h1)]
        have : fineB lo[i] = false := decide_eq_false (fun h => h (.inl h1))
        rw [this]
        rfl
      · rw [if_neg (fun h => h1 (lt32.mp h))]
        by_cases h2 : 126 < lo[i]
        · rw [if_pos (gt126.mpr h2)]
          have : fineB lo[i] = false := decide_eq_false (fun h => h (.inr h2))
          rw [this]
          rfl
        · rw [if_neg (fun h => h2 (gt126.mp h)), wrapS i (by omega)]
          have : fineB lo[i] = true := decide_eq_true (fun h => h.elim h1 h2)
          rw [this, Bool.true_and]
          exact boxed_val lo dom lit hlo hl k (i + 1) (by omega) (by omega)
    · rw [if_neg (by omega), List.drop_of_length_le (by omega), List.all_nil, Bool.true_and]
      unfold boxTail
      cases lit with
      | true =>
        rw [if_pos rfl, if_pos rfl, within_eq lo dom true k (by omega)]
        simp only [Option.bind_some, Bool.true_or, Bool.and_true]
        by_cases h64 : lo.length ≤ 64
        · rw [decide_eq_true h64, if_pos rfl, Literal_mk dom hl k (by omega), Bool.true_and]
          simp only [Option.bind_some]
          cases hL : litL dom with
          | true =>
            rw [if_pos rfl, small_val dom hl]
            simp only [Option.bind_some, Bool.true_and]
            rw [toList_mk, toList_mk]
            by_cases h2 : dom.map lowB = dom
            · rw [decide_eq_true h2, h2]; simp
            · rw [decide_eq_false h2]; simp [h2]
          | false => rw [if_neg (by decide)]; rfl
        · rw [decide_eq_false h64, if_neg (by decide)]; rfl
      | false =>
        rw [if_neg (by decide), if_neg (by decide), within_eq lo dom false k (by omega)]
        simp only [Option.bind_some, Bool.false_or]
        by_cases h64 : lo.length ≤ 64
        · rw [decide_eq_true h64, Bool.true_and, Bool.true_and]
          cases hs : shortB (mkText dom) with
          | true =>
            rw [if_pos rfl, lean_val dom hl k (by omega), hs]
            simp
          | false => rw [if_neg (by decide)]; rfl
        · rw [decide_eq_false h64, Bool.false_and, if_neg (by decide)]; rfl
def boxedB (lo dom : List UInt8) (lit : Bool) : Bool := lo.all fineB && boxTail lo dom lit
theorem boxed_is (lo dom : List UInt8) (lit : Bool) (hlo : lo.length < 4294967281) (hl : dom.length < 4294967281) (k : Nat) (hk : lo.length + dom.length + 6 < k) : path_boxed.f k (mkText lo) (mkText dom) lit = some (boxedB lo dom lit) := by
  unfold path_boxed.f boxedB
  rw [mkText_size]
  have := boxed_val lo dom lit hlo hl k 0 (by omega) (Nat.zero_le _)
  rw [List.drop_zero] at this
  exact this
theorem boxedB_ok {lo dom : List UInt8} {lit : Bool} (hl : dom.length < 4294967281) (h : boxedB lo dom lit = true) : BoxOK lo dom lit ∧ lo.length ≤ 64 ∧ (lit = false → shortB (mkText dom) = true) ∧ dom ≠ [] := by
  unfold boxedB boxTail at h
  simp only [Bool.and_eq_true, decide_eq_true_eq, List.all_eq_true] at h
  obtain ⟨h1, h64, h2⟩ := h
  have hf : ∀ b, b ∈ lo → Fine b := fun b hb => of_decide_eq_true (h1 b hb)
  cases lit with
  | true =>
    simp only [if_true, Bool.and_eq_true, decide_eq_true_eq] at h2
    have hg := lit_good dom h2.1
    refine ⟨⟨hf, fun e => (by cases e), fun _ => ⟨?_, hg.1, h2.2⟩⟩, h64, fun e => (by cases e), ?_⟩
    · rw [litB_mk dom hl]; exact h2.1
    · rintro rfl
      exact absurd h2.1 (by decide +kernel)
  | false =>
    simp only [Bool.false_eq_true, if_false, Bool.and_eq_true, decide_eq_true_eq] at h2
    refine ⟨⟨hf, fun _ => h2.2, fun e => (by cases e)⟩, h64, fun _ => h2.1, ?_⟩
    obtain ⟨b, d', e, _⟩ := h2.2.head
    rw [e]
    simp
def rightB (a : Bool) (ds : List (List UInt8)) (lo dom : List UInt8) (lit : Bool) : Bool :=
  if a = true then decide (ds = [] ∧ lo = [] ∧ dom = []) && !lit
  else if lo = [112, 111, 115, 116, 109, 97, 115, 116, 101, 114] ∧ dom = [] ∧ lit = false then decide (ds = [])
  else boxedB lo dom lit && (decide (ds.length ≤ 20) && ds.all fun d => decide (DomOK d) && shortB (mkText d))

theorem all_lean (ds : List (List UInt8)) (M : Nat) (hM : ∀ d, d ∈ ds → d.length ≤ M) (hl : M < 4294967281) (k : Nat) (hk : ds.length + M + 10 < k) (h20 : ds.length ≤ 20) :
    slices_ContainsFunc_string_string_at_path_Right_1.f k (ds.map mkText) = some (!(ds.all fun d => decide (DomOK d) && shortB (mkText d))) := by
  rw [rightAny (g := fun y => !(decide (DomOK y.data.toList) && shortB y)) (k0 := M + 4) (fun y hy k hk => by
    obtain ⟨d, hd', rfl⟩ := List.mem_map.mp hy
    have := hM d hd'
    unfold path_Right_1.f
    rw [lean_val d (by omega) k (by omega)]
    rfl) k (by rw [List.length_map]; omega) (by rw [List.length_map]; omega)]
  congr 1
  clear hM hk h20
  induction ds with
  | nil => rfl
  | cons d ds ih =>
    rw [List.map_cons, List.any_cons, List.all_cons, ih]
    exact (Bool.not_and ..).symm
theorem rightB_true (ds : List (List UInt8)) (lo dom : List UInt8) (lit : Bool) : rightB true ds lo dom lit = (decide (ds = [] ∧ lo = [] ∧ dom = []) && !lit) := rfl
theorem rightB_alone (ds : List (List UInt8)) : rightB false ds [112, 111, 115, 116, 109, 97, 115, 116, 101, 114] [] false = decide (ds = []) := rfl
theorem rightB_box (ds : List (List UInt8)) (lo dom : List UInt8) (lit : Bool) (hp : ¬ (lo = [112, 111, 115, 116, 109, 97, 115, 116, 101, 114] ∧ dom = [] ∧ lit = false)) :
    rightB false ds lo dom lit = (boxedB lo dom lit && (decide (ds.length ≤ 20) && ds.all fun d => decide (DomOK d) && shortB (mkText d))) := by
  unfold rightB
  rw [if_neg (by decide), if_neg hp]
theorem Right_val (a : Bool) (ds : List (List UInt8)) (lo dom : List UInt8) (lit : Bool) (M : Nat) (hM : ∀ d, d ∈ ds → d.length ≤ M) (hlo : lo.length ≤ M) (hd : dom.length ≤ M) (hl : M < 4294967281) (k : Nat) (hk : 2 * M + 110 < k) :
    path_Right.f k a (ds.map mkText) (mkText lo) (mkText dom) lit = some (rightB a ds lo dom lit) := by
  cases a with
  | true =>
    unfold path_Right.f
    rw [toList_mk, toList_mk, List.length_map, rightB_true, if_pos rfl]
    cases ds with
    | nil =>
      rw [if_pos (by rfl)]
      cases lo <;> cases dom <;> cases lit <;> rfl
    | cons d ds =>
      rw [if_neg (by rw [List.length_cons]; omega)]
      simp
  | false =>
    by_cases hp : lo = [112, 111, 115, 116, 109, 97, 115, 116, 101, 114] ∧ dom = [] ∧ lit = false
    · obtain ⟨rfl, rfl, rfl⟩ := hp
      unfold path_Right.f
      rw [toList_mk, toList_mk, List.length_map, rightB_alone, if_neg (by decide), if_pos (by decide)]
      cases ds with
      | nil => rfl
      | cons d ds =>
        have e : (((d :: ds).length : Int) == 0) = false := by
          rw [List.length_cons]
          exact beq_eq_false_iff_ne.mpr (by omega)
        rw [e]
        simp
    · unfold path_Right.f
      rw [toList_mk, toList_mk, List.length_map, rightB_box ds lo dom lit hp, if_neg (by decide), if_neg (by
        intro h
        apply hp
        simp only [Bool.and_eq_true, beq_iff_eq, Bool.not_eq_true'] at h
        exact h), boxed_is lo dom lit (by omega) (by omega) k (by omega)]
      simp only [Option.bind_some]
      cases hb : boxedB lo dom lit with
      | false =>
        rw [Bool.false_and]
        exact if_neg (by decide)
      | true =>
        rw [if_pos rfl, Bool.true_and]
        by_cases h20 : ds.length ≤ 20
        · rw [if_pos (by omega), all_lean ds M hM hl k (by omega) h20, decide_eq_true h20, Bool.true_and]
          simp
        · rw [if_neg (by omega), decide_eq_false h20, Bool.false_and]
theorem fits_nil {lo dom : List UInt8} {lit : Bool} (h64 : lo.length ≤ 64) (hs : lit = false → shortB (mkText dom) = true) : Fits [] lo dom lit := ⟨h64, hs, Nat.zero_le _, fun d hd => (by cases hd)⟩
theorem PrintBox_val (lo dom : List UInt8) (lit : Bool) (hlo : lo.length < 4294967281) (hl : dom.length < 4294967281) (k : Nat) (hk : lo.length + dom.length + 90 < k) :
    path_PrintBox.f k (mkText lo) (mkText dom) lit = some (if boxedB lo dom lit = true then (mkText (wboxL lo dom lit), 0) else (⟨#[]⟩, 150)) := by
  cases hb : boxedB lo dom lit with
  | true =>
    obtain ⟨h, h64, hs, hne⟩ := boxedB_ok hl hb
    rw [if_pos rfl, PrintBox_ok (ds := []) h (fits_nil h64 hs) hl k (by omega)]
  | false =>
    unfold path_PrintBox.f
    rw [boxed_is lo dom lit hlo hl k (by omega), hb]
    rfl
theorem Print_bad {a : Bool} {ds : List (List UInt8)} {lo dom : List UInt8} {lit : Bool} {k : Nat} (h : path_Right.f k a (ds.map mkText) (mkText lo) (mkText dom) lit = some false) :
    path_Print.f k a (ds.map mkText) (mkText lo) (mkText dom) lit = some (⟨#[]⟩, 150) := by
  unfold path_Print.f
  rw [h]
  rfl
theorem Mailbox_back {lo dom : List UInt8} {lit : Bool} (h : BoxOK lo dom lit) (hf : Fits [] lo dom lit) (hw : (wboxL lo dom lit).length < 4294967281) (k : Nat) (hk : (wboxL lo dom lit).length + dom.length + 10 < k) :
    path_Mailbox.f k (mkText (wboxL lo dom lit)) = some (mkText lo, mkText dom, lit, 0) := by
  obtain ⟨k, rfl⟩ : ∃ k', k = k' + 1 := ⟨k - 1, by omega⟩
  unfold path_Mailbox.f
  have h1 := box_eq (mkText (wboxL lo dom lit)) (by rw [mkText_size]; exact hw) (k + 1) 0 (by rw [rest_mk]; omega) (Nat.zero_le _)
  have h2 := box_back h (t := []) (by intro b t' e; cases e) rfl
  rw [List.append_nil] at h2
  rw [rest_mk, h2] at h1
  have h0 : path_reader_box.f (k + 1) (mkText (wboxL lo dom lit)) 0 = _ := h1
  rw [h0]
  simp only [Option.bind_some, if_true, Nat.zero_add, mkText_size]
  rw [show ((((wboxL lo dom lit).length : Nat) : Int) != (((wboxL lo dom lit).length : Nat) : Int)) = false by simp, path_Mailbox.j0, if_neg (by decide), within_eq lo dom lit k (by omega)]
  simp only [Option.bind_some]
  rw [if_pos]
  rw [decide_eq_true hf.los, Bool.true_and]
  cases lit with
  | true => rfl
  | false => rw [hf.doms rfl]; rfl
theorem rightB_ok {ds : List (List UInt8)} {lo dom : List UInt8} {lit : Bool} (hl : dom.length < 4294967281) (hp : ¬ (lo = [112, 111, 115, 116, 109, 97, 115, 116, 101, 114] ∧ dom = [] ∧ lit = false)) (h : rightB false ds lo dom lit = true) :
    boxedB lo dom lit = true ∧ (∀ d, d ∈ ds → DomOK d) ∧ BoxOK lo dom lit ∧ Fits ds lo dom lit ∧ dom ≠ [] := by
  unfold rightB at h
  rw [if_neg (by decide), if_neg hp] at h
  simp only [Bool.and_eq_true, decide_eq_true_eq, List.all_eq_true] at h
  obtain ⟨h1, h2, h3⟩ := h
  obtain ⟨b1, b2, b3, b4⟩ := boxedB_ok hl h1
  exact ⟨h1, fun d hd => (h3 d hd).1, b1, ⟨b2, b3, h2, fun d hd => (h3 d hd).2⟩, b4⟩
theorem boxedB_none (lo : List UInt8) : boxedB lo [] false = false := by
  cases h : boxedB lo [] false with
  | false => rfl
  | true => exact absurd rfl (boxedB_ok (by decide) h).2.2.2
end Go.Proofs.YtokpnfljjjjikaaGreatDoor.PathL
