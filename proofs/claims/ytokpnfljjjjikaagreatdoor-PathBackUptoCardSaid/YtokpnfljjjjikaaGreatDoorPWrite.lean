/- What Right and Print tell of a path that was read. -/
import Derived.Test.YtokpnfljjjjikaaGreatDoorPLit
import Derived.Test.YtokpnfljjjjikaaGreatDoorPParse
import Derived.Test.YtokpnfljjjjikaaGreatDoorQPathx13
namespace Go.Proofs.YtokpnfljjjjikaaGreatDoor.PathL
open Go.RowKit Go.Proofs.YtokpnfljjjjikaaGreatDoor Go.Proofs.YtokpnfljjjjikaaGreatDoor.QPath Go.Proofs.YtokpnfljjjjikaaGreatDoorW.PrintWords Go.Proofs.YtokpnfljjjjikaaGreatDoorW.PrintMore
set_option linter.unusedVariables false
set_option linter.unusedSimpArgs false

def shortB (x : ByteArray) : Bool := (path_short.f (x.size + 3) x).getD false
theorem short_eq (x : ByteArray) (k : Nat) (hk : x.size + 2 < k) : path_short.f k x = some (shortB x) := by
  obtain ⟨r, hr⟩ := short_some x (x.size + 3) (by omega)
  have h1 : shortB x = r := by unfold shortB; rw [hr]; rfl
  rw [h1]
  exact at_rounds (fun k => path_short.mono x k) (by omega) hr
theorem short_size (x : ByteArray) (h : shortB x = true) : x.size ≤ 255 := by
  have h1 := short_eq x (x.size + 3) (by omega)
  rw [h] at h1
  unfold path_short.f at h1
  split at h1
  · omega
  · cases h1
theorem parseIdx_is {g : ByteArray → Bool} {k0 : Nat} {xs : List ByteArray} (hf : ∀ y, y ∈ xs → ∀ k, k0 ≤ k → path_Parse_1.f k y = some (g y)) : ∀ (k i : Nat), xs.length - i + k0 < k → i ≤ xs.length → xs.length < 4611686018427387904 →
    ∃ r, slices_IndexFunc_string_string_at_path_Parse_1.l0 k xs (xs.length : Int) (i : Int) = some r ∧ decide (r ≥ 0) = (xs.drop i).any g
  | 0, _, h, _, _ => absurd h (Nat.not_lt_zero _)
  | k + 1, i, h, hi, hl => by
    unfold slices_IndexFunc_string_string_at_path_Parse_1.l0
    by_cases hlt : i < xs.length
    · rw [if_pos (by omega), if_pos (by omega), if_pos (by omega)]
      have hrd : rdOf ByteArray.empty xs (i : Int) = xs[i] := by simp [rdOf, hlt]
      have hd : xs.drop i = xs[i] :: xs.drop (i + 1) := List.drop_eq_getElem_cons hlt
      rw [hrd, hf xs[i] (List.getElem_mem hlt) k (by omega), hd, List.any_cons]
      simp only [Option.bind_some]
      cases hg : g xs[i] with
      | true => exact ⟨_, if_pos rfl, by simp⟩
      | false =>
        rw [if_neg (by decide), wrapS i (by omega)]
        obtain ⟨r, h1, h2⟩ := parseIdx_is hf k (i + 1) (by omega) (by omega) hl
        exact ⟨r, h1, by rw [h2]; rfl⟩
    · rw [if_neg (by omega), List.drop_of_length_le (by omega)]
      exact ⟨_, rfl, rfl⟩
theorem parseAny {g : ByteArray → Bool} {k0 : Nat} {xs : List ByteArray} (hf : ∀ y, y ∈ xs → ∀ k, k0 ≤ k → path_Parse_1.f k y = some (g y)) (k : Nat) (hk : xs.length + k0 < k) (hl : xs.length < 4611686018427387904) : slices_ContainsFunc_string_string_at_path_Parse_1.f k xs = some (xs.any g) := by
  obtain ⟨r, h1, h2⟩ := parseIdx_is hf k 0 (by omega) (Nat.zero_le _) hl
  unfold slices_ContainsFunc_string_string_at_path_Parse_1.f slices_IndexFunc_string_string_at_path_Parse_1.f
  rw [show (0 : Int) = ((0 : Nat) : Int) from rfl, h1]
  simp only [Option.bind_some]
  rw [show decide (r ≥ ((0 : Nat) : Int)) = decide (r ≥ 0) from rfl, h2, List.drop_zero]
theorem rightIdx_is {g : ByteArray → Bool} {k0 : Nat} {xs : List ByteArray} (hf : ∀ y, y ∈ xs → ∀ k, k0 ≤ k → path_Right_1.f k y = some (g y)) : ∀ (k i : Nat), xs.length - i + k0 < k → i ≤ xs.length → xs.length < 4611686018427387904 →
    ∃ r, slices_IndexFunc_string_string_at_path_Right_1.l0 k xs (xs.length : Int) (i : Int) = some r ∧ decide (r ≥ 0) = (xs.drop i).any g
  | 0, _, h, _, _ => absurd h (Nat.not_lt_zero _)
  | k + 1, i, h, hi, hl => by
    unfold slices_IndexFunc_string_string_at_path_Right_1.l0
    by_cases hlt : i < xs.length
    · rw [if_pos (by omega), if_pos (by omega), if_pos (by omega)]
      have hrd : rdOf ByteArray.empty xs (i : Int) = xs[i] := by simp [rdOf, hlt]
      have hd : xs.drop i = xs[i] :: xs.drop (i + 1) := List.drop_eq_getElem_cons hlt
      rw [hrd, hf xs[i] (List.getElem_mem hlt) k (by omega), hd, List.any_cons]
      simp only [Option.bind_some]
      cases hg : g xs[i] with
      | true => exact ⟨_, if_pos rfl, by simp⟩
      | false =>
        rw [if_neg (by decide), wrapS i (by omega)]
        obtain ⟨r, h1, h2⟩ := rightIdx_is hf k (i + 1) (by omega) (by omega) hl
        exact ⟨r, h1, by rw [h2]; rfl⟩
    · rw [if_neg (by omega), List.drop_of_length_le (by omega)]
      exact ⟨_, rfl, rfl⟩
theorem rightAny {g : ByteArray → Bool} {k0 : Nat} {xs : List ByteArray} (hf : ∀ y, y ∈ xs → ∀ k, k0 ≤ k → path_Right_1.f k y = some (g y)) (k : Nat) (hk : xs.length + k0 < k) (hl : xs.length < 4611686018427387904) : slices_ContainsFunc_string_string_at_path_Right_1.f k xs = some (xs.any g) := by
  obtain ⟨r, h1, h2⟩ := rightIdx_is hf k 0 (by omega) (Nat.zero_le _) hl
  unfold slices_ContainsFunc_string_string_at_path_Right_1.f slices_IndexFunc_string_string_at_path_Right_1.f
  rw [show (0 : Int) = ((0 : Nat) : Int) from rfl, h1]
  simp only [Option.bind_some]
  rw [show decide (r ≥ ((0 : Nat) : Int)) = decide (r ≥ 0) from rfl, h2, List.drop_zero]
structure Fits (ds : List (List UInt8)) (lo dom : List UInt8) (lit : Bool) : Prop where
  los : lo.length ≤ 64
  doms : lit = false → shortB (mkText dom) = true
  many : ds.length ≤ 20
  each : ∀ d, d ∈ ds → shortB (mkText d) = true
theorem within_eq (lo dom : List UInt8) (lit : Bool) (k : Nat) (hk : dom.length + 2 < k) : path_within.f k (mkText lo) (mkText dom) lit = some (decide (lo.length ≤ 64) && (lit || shortB (mkText dom))) := by
  unfold path_within.f
  rw [mkText_size]
  by_cases h : lo.length ≤ 64
  · rw [if_pos (by omega), decide_eq_true h, Bool.true_and]
    cases lit with
    | true => rfl
    | false =>
      rw [if_neg (by decide), short_eq _ k (by rw [mkText_size]; exact hk)]
      rfl
  · rw [if_neg (by omega), decide_eq_false h]
    rfl
theorem parse1_eq (y : ByteArray) (k : Nat) (hk : y.size + 2 < k) : path_Parse_1.f k y = some (!shortB y) := by
  unfold path_Parse_1.f
  rw [short_eq y k hk]
  rfl
theorem j0_fits (k : Nat) (s : ByteArray) (q : Int) (ds : List (List UInt8)) (lo dom : List UInt8) (lit : Bool) (hf : Fits ds lo dom lit) (M : Nat) (hM : ∀ d, d ∈ ds → d.length ≤ M) (hd : dom.length ≤ M) (hk : ds.length + M + 5 < k) :
    path_Parse.j0 k false s q false (ds.map mkText) (mkText lo) (mkText dom) lit = some (false, ds.map mkText, mkText lo, mkText dom, lit, q, 0) := by
  have hl := hf.many
  obtain ⟨k, rfl⟩ : ∃ k', k = k' + 1 := ⟨k - 1, by omega⟩
  rw [path_Parse.j0, if_neg (by decide), within_eq lo dom lit k (by omega)]
  simp only [Option.bind_some]
  have hw : (decide (lo.length ≤ 64) && (lit || shortB (mkText dom))) = true := by
    rw [decide_eq_true hf.los, Bool.true_and]
    cases lit with
    | true => rfl
    | false => rw [hf.doms rfl]; rfl
  rw [if_pos hw, List.length_map, if_neg (by omega)]
  rw [parseAny (g := fun y => !shortB y) (k0 := M + 3) (fun y hy k hk => by
    obtain ⟨d, hd', rfl⟩ := List.mem_map.mp hy
    have := hM d hd'
    exact parse1_eq _ k (by rw [mkText_size]; omega)) k (by rw [List.length_map]; omega) (by rw [List.length_map]; omega)]
  simp only [Option.bind_some]
  rw [if_neg]
  intro ha
  obtain ⟨y, hy, h1⟩ := List.any_eq_true.mp ha
  obtain ⟨d, hd', rfl⟩ := List.mem_map.mp hy
  rw [hf.each d hd'] at h1
  cases h1

theorem rest_mk (l : List UInt8) : rest (mkText l) 0 = l := rfl
theorem Domain_ok (d : List UInt8) (h : DomOK d) (hs : shortB (mkText d) = true) (hl : d.length < 4294967281) (k : Nat) (hk : d.length + 3 < k) : path_Domain.f k (mkText d) = some true := by
  unfold path_Domain.f
  have h1 := domain_eq (mkText d) (by rw [mkText_size]; omega) k 0 (by rw [rest_mk]; omega) (Nat.zero_le _)
  rw [rest_mk] at h1
  have h2 := h.read (t := []) (by intro b t' e; cases e) rfl
  rw [List.append_nil] at h2
  rw [h2] at h1
  rw [show (0 : Int) = ((0 : Nat) : Int) from rfl, h1]
  simp only [Option.bind_some]
  rw [if_pos trivial, if_pos (by rw [mkText_size]; omega), short_eq _ k (by rw [mkText_size]; omega), hs]
  rfl
theorem small_f (d : List UInt8) (h : d.map lowB = d) (hl : d.length < 4294967281) : path_small.f (mkText d) = some (mkText d) := by
  unfold path_small.f
  rw [if_pos (by rw [mkText_size]; omega), small_mk, h]
theorem toList_mk (l : List UInt8) : (mkText l).toList = l := ByteArray.toList_eq ..
theorem lean_ok (d : List UInt8) (h : DomOK d) (hs : shortB (mkText d) = true) (hl : d.length < 4294967281) (k : Nat) (hk : d.length + 3 < k) : path_lean.f k (mkText d) = some true := by
  unfold path_lean.f
  rw [Domain_ok d h hs hl k hk]
  simp only [Option.bind_some]
  rw [if_pos trivial, small_f d h.2 hl]
  simp
theorem bt_fine (l : List UInt8) (i : Nat) (hi : i < l.length) (h : ∀ b, b ∈ l → Fine b) : ¬ bt (mkText l) (i : Int) < 32 ∧ ¬ bt (mkText l) (i : Int) > 126 := by
  have e := bt_mk l i hi
  have hf : Fine (l.getD i 0) := h _ (by
    rw [List.getD_eq_getElem?_getD, List.getElem?_eq_getElem hi]
    exact List.getElem_mem hi)
  rw [e]
  refine ⟨fun h1 => hf (.inl (lt32.mp h1)), fun h1 => hf (.inr (gt126.mp h1))⟩
theorem boxed_run {ds : List (List UInt8)} {lo dom : List UInt8} {lit : Bool} (h : BoxOK lo dom lit) (hf : Fits ds lo dom lit) (hl : dom.length < 4294967281) : ∀ (k i : Nat), lo.length - i + dom.length + 6 < k → i ≤ lo.length →
    path_boxed.l0 k (lo.length : Int) (i : Int) (mkText lo) (mkText dom) lit = some true
  | 0, _, h, _ => absurd h (Nat.not_lt_zero _)
  | k + 1, i, hk, hi => by
    have h64 := hf.los
    unfold path_boxed.l0
    by_cases hlt : i < lo.length
    · obtain ⟨b1, b2⟩ := bt_fine lo i hlt h.los
      rw [if_pos (by omega), if_pos (by omega), if_pos (by rw [mkText_size]; omega), if_neg b1, if_neg b2, wrapS i (by omega)]
      exact boxed_run h hf hl k (i + 1) (by omega) (by omega)
    · rw [if_neg (by omega)]
      cases lit with
      | true =>
        obtain ⟨w1, w2, w3⟩ := h.words rfl
        rw [if_pos rfl, within_eq lo dom true k (by omega), decide_eq_true h64]
        simp only [Option.bind_some, Bool.true_or, Bool.true_and, if_true]
        rw [Literal_mk dom hl k (by omega), ← litB_mk dom hl, w1]
        simp only [Option.bind_some, if_true]
        rw [small_f dom w3 hl]
        simp
      | false =>
        rw [if_neg (by decide), within_eq lo dom false k (by omega), decide_eq_true h64, hf.doms rfl]
        simp only [Option.bind_some, Bool.or_true, Bool.true_and, if_true, Bool.false_or]
        rw [lean_ok dom (h.doms rfl) (hf.doms rfl) hl k (by omega)]
        rfl
theorem boxed_ok {ds : List (List UInt8)} {lo dom : List UInt8} {lit : Bool} (h : BoxOK lo dom lit) (hf : Fits ds lo dom lit) (hl : dom.length < 4294967281) (k : Nat) (hk : dom.length + 80 < k) : path_boxed.f k (mkText lo) (mkText dom) lit = some true := by
  have h64 := hf.los
  unfold path_boxed.f
  rw [mkText_size]
  exact boxed_run h hf hl k 0 (by omega) (Nat.zero_le _)
theorem Right_ok {ds : List (List UInt8)} {lo dom : List UInt8} {lit : Bool} (hds : ∀ d, d ∈ ds → DomOK d) (h : BoxOK lo dom lit) (hf : Fits ds lo dom lit) (hne : dom ≠ []) (M : Nat) (hM : ∀ d, d ∈ ds → d.length ≤ M) (hd : dom.length ≤ M) (hl : M < 4294967281) (k : Nat) (hk : M + 110 < k) :
    path_Right.f k false (ds.map mkText) (mkText lo) (mkText dom) lit = some true := by
  have h20 := hf.many
  unfold path_Right.f
  rw [if_neg (by decide), toList_mk, toList_mk]
  rw [if_neg (by
    simp only [Bool.and_eq_true, beq_iff_eq]
    rintro ⟨_, e, _⟩
    exact hne e)]
  rw [boxed_ok h hf (by omega) k (by omega)]
  simp only [Option.bind_some, if_true, List.length_map]
  rw [if_pos (by omega)]
  rw [rightAny (g := fun _ => false) (k0 := M + 4) (fun y hy k hk => by
    obtain ⟨d, hd', rfl⟩ := List.mem_map.mp hy
    have := hM d hd'
    unfold path_Right_1.f
    rw [lean_ok d (hds d hd') (hf.each d hd') (by omega) k (by omega)]
    rfl) k (by rw [List.length_map]; omega) (by rw [List.length_map]; omega)]
  simp

theorem app_mk (a b : List UInt8) : mkText a ++ mkText b = mkText (a ++ b) := by
  apply ByteArray.ext
  rw [← Array.toList_inj]
  simp [mkText]
theorem quoteS_mk (l : List UInt8) : quoteS (mkText l) = mkText (qL l) := by
  have e : quoteI (bytesOf (mkText l)) = numsOf (qL l) := by
    rw [bytes_mk]
    induction l with
    | nil => rfl
    | cons b l ih =>
      have e1 : qL (b :: l) = qB b ++ qL l := rfl
      rw [e1, List.map_cons]
      show quote1 (b.toNat : Int) ++ quoteI (l.map fun b => (b.toNat : Int)) = numsOf (qB b ++ qL l)
      rw [ih]
      unfold numsOf
      rw [List.map_append]
      congr 1
      exact forall_byte (Q := fun b => quote1 (b.toNat : Int) = (qB b).map fun b => (b.toNat : Int)) (by decide +kernel) b
  unfold quoteS
  rw [e, str_nums]
theorem boxS_mk (lo dom : List UInt8) (lit : Bool) (l : List UInt8) : boxS (mkText l) (mkText dom) lit = mkText (l ++ (if lit = true then 64 :: 91 :: (dom ++ [93]) else 64 :: dom)) := by
  unfold boxS
  cases lit with
  | true =>
    rw [if_pos rfl, if_pos rfl]
    show ((mkText l ++ mkText [64, 91]) ++ mkText dom) ++ mkText [93] = _
    rw [app_mk, app_mk, app_mk]
    simp
  | false =>
    rw [if_neg (by decide), if_neg (by decide)]
    show (mkText l ++ mkText [64]) ++ mkText dom = _
    rw [app_mk, app_mk]
    simp
theorem PrintBox_ok {ds : List (List UInt8)} {lo dom : List UInt8} {lit : Bool} (h : BoxOK lo dom lit) (hf : Fits ds lo dom lit) (hl : dom.length < 4294967281) (k : Nat) (hk : dom.length + 80 < k) : path_PrintBox.f k (mkText lo) (mkText dom) lit = some (mkText (wboxL lo dom lit), 0) := by
  have h64 := hf.los
  unfold path_PrintBox.f
  rw [boxed_ok h hf hl k hk]
  simp only [Option.bind_some, if_true]
  unfold path_reader_list_at_path_reader_atom.f
  have h1 := atoms_run (mkText lo) (by rw [mkText_size]; omega) k 0 (by rw [rest_mk]; omega) (Nat.zero_le _)
  rw [rest_mk] at h1
  rw [show (0 : Int) = ((0 : Nat) : Int) from rfl, h1]
  simp only [Option.bind_some]
  rw [if_pos ⟨by rw [mkText_size]; omega, by rw [mkText_size]; omega⟩]
  congr 2
  unfold wboxL wroteL plainL
  by_cases hp : ((listL atomL 46 lo).1 && (listL atomL 46 lo).2 == lo.length) = true
  · rw [if_pos hp, if_pos (by
      simp only [Bool.and_eq_true, beq_iff_eq] at hp
      exact ⟨hp.1, by rw [mkText_size, hp.2]; simp⟩), boxS_mk lo]
  · rw [if_neg hp, if_neg (by
      intro h2
      apply hp
      simp only [Bool.and_eq_true, beq_iff_eq]
      refine ⟨h2.1, ?_⟩
      have := h2.2
      rw [mkText_size] at this
      omega)]
    have e : quotedS (mkText lo) = mkText (34 :: (qL lo ++ [34])) := by
      unfold quotedS
      rw [quoteS_mk]
      show (mkText [34] ++ mkText (qL lo)) ++ mkText [34] = _
      rw [app_mk, app_mk]
      simp
    rw [e, boxS_mk lo]
theorem join_route : ∀ (d : List UInt8) (ds : List (List UInt8)), 64 :: Lib.join (d :: ds) [44, 64] = wroute (d :: ds)
  | d, [] => by simp [Lib.join, wroute, List.intercalate]
  | d, d2 :: ds => by
    have ih := join_route d2 ds
    have e : Lib.join (d :: d2 :: ds) [44, 64] = d ++ 44 :: 64 :: Lib.join (d2 :: ds) [44, 64] := by
      unfold Lib.join
      simp [List.intercalate, List.intersperse]
    rw [e, ih]
    rfl
theorem joinL_mk (d : List UInt8) (ds : List (List UInt8)) : (⟨#[64]⟩ : ByteArray) ++ joinL ((d :: ds).map mkText) ⟨#[44, 64]⟩ = mkText (wroute (d :: ds)) := by
  have e : joinL ((d :: ds).map mkText) ⟨#[44, 64]⟩ = mkText (Lib.join (d :: ds) [44, 64]) := by
    unfold joinL
    rw [List.map_map]
    have : ((fun x : ByteArray => x.data.toList) ∘ mkText) = id := by
      funext l
      simp [mkText]
    rw [this, List.map_id]
    rfl
  rw [e]
  show mkText [64] ++ _ = _
  rw [app_mk]
  exact congrArg mkText (join_route d ds)
theorem Print_ok {ds : List (List UInt8)} {lo dom : List UInt8} {lit : Bool} (hds : ∀ d, d ∈ ds → DomOK d) (h : BoxOK lo dom lit) (hf : Fits ds lo dom lit) (hne : dom ≠ []) (M : Nat) (hM : ∀ d, d ∈ ds → d.length ≤ M) (hd : dom.length ≤ M) (hl : M < 4294967281) (hw : (wpathL ds lo dom lit).length < 4294967281) (k : Nat) (hk : M + 110 < k) :
    path_Print.f k false (ds.map mkText) (mkText lo) (mkText dom) lit = some (mkText (60 :: (wpathL ds lo dom lit ++ [62])), 0) := by
  unfold path_Print.f
  rw [Right_ok hds h hf hne M hM hd hl k hk]
  simp only [Option.bind_some, if_true]
  rw [if_neg (by decide), if_neg (by rw [toList_mk]; exact hne), PrintBox_ok h hf (by omega) k (by omega)]
  simp only [Option.bind_some]
  cases ds with
  | nil =>
    have hw' : (wboxL lo dom lit).length < 4294967281 := hw
    rw [if_neg (by simp), if_pos (by rw [mkText_size]; omega)]
    have e : (⟨#[60]⟩ : ByteArray) ++ mkText (wboxL lo dom lit) = mkText (60 :: wboxL lo dom lit) := app_mk [60] _
    rw [e, if_pos (by rw [mkText_size, List.length_cons]; omega)]
    have e2 : mkText (60 :: wboxL lo dom lit) ++ (⟨#[62]⟩ : ByteArray) = mkText (60 :: (wboxL lo dom lit ++ [62])) := app_mk (60 :: wboxL lo dom lit) [62]
    rw [e2]
    rfl
  | cons d ds =>
    have hw' : (wroute (d :: ds) ++ 58 :: wboxL lo dom lit).length < 4294967281 := hw
    rw [List.length_append, List.length_cons] at hw'
    have e0 := joinL_mk d ds
    have es : 1 + (joinL ((d :: ds).map mkText) ⟨#[44, 64]⟩).size = (wroute (d :: ds)).length := by
      have := congrArg ByteArray.size e0
      rw [ByteArray.size_append, mkText_size] at this
      exact this
    rw [if_pos (by simp)]
    unfold strings_Join.f
    have h20 := hf.many
    rw [if_pos ⟨by simp, by rw [List.length_map]; omega, by omega⟩]
    simp only [Option.bind_some]
    rw [if_pos (by omega), e0, if_pos (by rw [mkText_size]; omega)]
    have e1 : mkText (wroute (d :: ds)) ++ (⟨#[58]⟩ : ByteArray) = mkText (wroute (d :: ds) ++ [58]) := app_mk _ [58]
    rw [e1, if_pos (by rw [mkText_size, mkText_size, List.length_append]; simp; omega), app_mk]
    have e2 : wroute (d :: ds) ++ [58] ++ wboxL lo dom lit = wpathL (d :: ds) lo dom lit := by
      show _ = wroute (d :: ds) ++ 58 :: wboxL lo dom lit
      simp
    rw [e2, if_pos (by rw [mkText_size]; omega)]
    have e3 : (⟨#[60]⟩ : ByteArray) ++ mkText (wpathL (d :: ds) lo dom lit) = mkText (60 :: wpathL (d :: ds) lo dom lit) := app_mk [60] _
    rw [e3, if_pos (by rw [mkText_size, List.length_cons]; omega)]
    have e4 : mkText (60 :: wpathL (d :: ds) lo dom lit) ++ (⟨#[62]⟩ : ByteArray) = mkText (60 :: (wpathL (d :: ds) lo dom lit ++ [62])) := app_mk (60 :: wpathL (d :: ds) lo dom lit) [62]
    rw [e4]
theorem parse_back {ds : List (List UInt8)} {lo dom : List UInt8} {lit : Bool} (hds : ∀ d, d ∈ ds → DomOK d) (h : BoxOK lo dom lit) (hf : Fits ds lo dom lit) (M : Nat) (hM : ∀ d, d ∈ ds → d.length ≤ M) (hd : dom.length ≤ M) (hw : (wpathL ds lo dom lit).length < 4294960000) (hne : wpathL ds lo dom lit ≠ []) (k : Nat) (hk : M + 110 < k) (hk2 : (wpathL ds lo dom lit).length + 20 < k) (more : List UInt8) (hmore : more.length + (wpathL ds lo dom lit).length < 4294960000) (hk3 : more.length + (wpathL ds lo dom lit).length + 20 < k) :
    path_Parse.f k (mkText (60 :: (wpathL ds lo dom lit ++ 62 :: more))) = some (false, ds.map mkText, mkText lo, mkText dom, lit, (((wpathL ds lo dom lit).length + 2 : Nat) : Int), 0) := by
  have h20 := hf.many
  have hi := inner_back hds h more
  have hdata : (mkText (60 :: (wpathL ds lo dom lit ++ 62 :: more))).data.toList = 60 :: (wpathL ds lo dom lit ++ 62 :: more) := rfl
  have hsz : (mkText (60 :: (wpathL ds lo dom lit ++ 62 :: more))).size = (wpathL ds lo dom lit).length + more.length + 2 := by
    rw [mkText_size, List.length_cons, List.length_append, List.length_cons]
    omega
  have hd1 : (60 :: (wpathL ds lo dom lit ++ 62 :: more)).drop 1 = wpathL ds lo dom lit ++ 62 :: more := rfl
  have hnull : nullL (60 :: (wpathL ds lo dom lit ++ 62 :: more)) = false := by
    unfold nullL
    rw [hd1]
    cases hp : wpathL ds lo dom lit with
    | nil => exact absurd hp hne
    | cons b l =>
      cases hb : (b == 62) with
      | false =>
        show ((60 : UInt8) == 60 && (b == 62)) = false
        rw [hb]
        rfl
      | true =>
        exfalso
        have e : b = 62 := by simpa using hb
        rw [hp, e] at hi
        have hx : (innerL (62 :: (l ++ 62 :: more))).1 = true := by
          have := congrArg (·.1) hi
          exact this
        revert hx
        have ha : isAloneL (62 :: (l ++ 62 :: more)) = false := by
          cases ha : isAloneL (62 :: (l ++ 62 :: more)) with
          | false => rfl
          | true =>
            exfalso
            unfold isAloneL at ha
            simp only [Bool.and_eq_true, decide_eq_true_eq] at ha
            have h2 := ha.1.2
            rw [small_mk, toList_mk, List.take_succ_cons, List.map_cons] at h2
            have h3 : lowB 62 = 112 := (List.cons.inj (by simpa using h2 : _ = ([112, 111, 115, 116, 109, 97, 115, 116, 101, 114] : List UInt8))).1
            revert h3
            decide
        have hb1 : (boxL (62 :: (l ++ 62 :: more))).1 = false := by
          have hlo : (localL (62 :: (l ++ 62 :: more))).1 = false := by
            unfold localL
            rw [if_neg (show ¬ nextIs 34 (62 :: (l ++ 62 :: more)) = true by simp [nextIs])]
            show (listL atomL 46 _).1 = false
            rw [listL_eq]
            have : (atomL (62 :: (l ++ 62 :: more))).1 = false := by
              unfold atomL
              rw [List.takeWhile_cons_of_neg (by decide +kernel)]
              rfl
            rw [this]
            rfl
          unfold boxL
          rw [if_neg (by rw [hlo]; decide)]
        unfold innerL
        rw [if_neg (by rw [ha]; decide), if_neg (show ¬ nextIs 64 (62 :: (l ++ 62 :: more)) = true by simp [nextIs])]
        simp only
        rw [hb1]
        decide
  have hsyn : synL (60 :: (wpathL ds lo dom lit ++ 62 :: more)) = true := by
    unfold synL
    rw [hd1, hi]
    simp only
    have e : (60 :: (wpathL ds lo dom lit ++ 62 :: more)).drop (1 + (wpathL ds lo dom lit).length) = 62 :: more := by
      rw [Nat.add_comm, List.drop_succ_cons, List.drop_left]
    rw [e]
    rfl
  rw [parse_syn _ (by omega) k (by omega) (by rw [hdata]; exact hnull) (by rw [hdata]; exact hsyn)]
  rw [hdata, hd1, hi]
  simp only
  rw [j0_fits k _ _ ds lo dom lit hf M hM hd (by omega)]
  rw [Nat.add_comm 2]
end Go.Proofs.YtokpnfljjjjikaaGreatDoor.PathL
