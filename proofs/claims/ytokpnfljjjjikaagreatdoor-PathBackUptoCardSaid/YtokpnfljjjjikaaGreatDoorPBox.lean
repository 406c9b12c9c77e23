/- Mailboxes and routes, written and read. -/
import Derived.Test.YtokpnfljjjjikaaGreatDoorPMore
namespace Go.Proofs.YtokpnfljjjjikaaGreatDoor.PathL
open Go.RowKit Go.Proofs.YtokpnfljjjjikaaGreatDoor Go.Proofs.YtokpnfljjjjikaaGreatDoor.QPath Go.Proofs.YtokpnfljjjjikaaGreatDoorW.PrintWords Go.Proofs.YtokpnfljjjjikaaGreatDoorW.PrintMore
set_option linter.unusedVariables false
set_option linter.unusedSimpArgs false

def DomOK (d : List UInt8) : Prop := listL labelL 46 d = (true, d.length) ∧ d.map lowB = d
theorem DomOK.read {d : List UInt8} (h : DomOK d) {t : List UInt8} (ht : Stops labB t) (h2 : nextIs 46 t = false) : domL (d ++ t) = (true, mkText d, d.length) := by
  unfold domL
  rw [labels_more ht h2, h.1]
  simp only
  rw [List.take_left', small_mk, h.2]
  rfl
theorem DomOK.head {d : List UInt8} (h : DomOK d) : ∃ b d', d = b :: d' ∧ labB b = true := by
  have h1 : (listL labelL 46 d).1 = true := by rw [h.1]
  rw [listL_eq] at h1
  cases d with
  | nil => simp [labelL] at h1
  | cons b d' =>
    refine ⟨b, d', rfl, ?_⟩
    by_cases hb : labB b = true
    · exact hb
    · exfalso
      have : (labelL (b :: d')).1 = false := by
        unfold labelL
        rw [List.takeWhile_cons_of_neg hb]
      rw [this] at h1
      simp at h1
theorem lab_not91 (b : UInt8) : labB b = true → (b == 91) = false := forall_byte (Q := fun b => labB b = true → (b == 91) = false) (by decide +kernel) b
structure BoxOK (lo dom : List UInt8) (lit : Bool) : Prop where
  los : ∀ b, b ∈ lo → Fine b
  doms : lit = false → DomOK dom
  words : lit = true → litB (mkText dom) = true ∧ (∀ b, b ∈ dom → wordB b = true) ∧ dom.map lowB = dom
def wboxL (lo dom : List UInt8) (lit : Bool) : List UInt8 := wroteL lo ++ (if lit = true then 64 :: 91 :: (dom ++ [93]) else 64 :: dom)
theorem at_stop (t : List UInt8) : Stops atomB (64 :: t) := by
  intro b t' e
  cases e
  decide +kernel
theorem tw_all {P : UInt8 → Bool} {t : List UInt8} (ht : Stops P t) : ∀ l : List UInt8, (∀ b, b ∈ l → P b = true) → (l ++ t).takeWhile P = l
  | [], _ => by
    cases t with
    | nil => rfl
    | cons b t => rw [List.nil_append, List.takeWhile_cons_of_neg (by rw [ht b t rfl]; decide)]
  | b :: l, h => by rw [List.cons_append, List.takeWhile_cons_of_pos (h b (List.mem_cons_self ..)), tw_all ht l (fun x hx => h x (List.mem_cons_of_mem _ hx))]
theorem drop_left (l t : List UInt8) (n : Nat) : (l ++ t).drop (l.length + n) = t.drop n := by
  rw [← List.drop_drop, List.drop_left]
theorem box_back {lo dom : List UInt8} {lit : Bool} (h : BoxOK lo dom lit) {t : List UInt8} (ht : Stops labB t) (h2 : nextIs 46 t = false) :
    boxL (wboxL lo dom lit ++ t) = (true, mkText lo, mkText dom, lit, (wboxL lo dom lit).length) := by
  unfold wboxL
  cases lit with
  | true =>
    obtain ⟨hl, hw, hs⟩ := h.words rfl
    simp only [if_true]
    rw [List.append_assoc]
    have e0 : ((64 : UInt8) :: 91 :: (dom ++ [93])) ++ t = 64 :: 91 :: (dom ++ 93 :: t) := by simp
    rw [e0]
    have e1 := local_back lo (64 :: 91 :: (dom ++ 93 :: t)) h.los (at_stop _) rfl
    unfold boxL
    rw [e1]
    simp only
    rw [if_pos trivial, show ((wroteL lo ++ 64 :: 91 :: (dom ++ 93 :: t)).drop (wroteL lo).length) = 64 :: 91 :: (dom ++ 93 :: t) from List.drop_left]
    rw [if_pos (show nextIs 64 (64 :: 91 :: (dom ++ 93 :: t)) = true from rfl), drop_left _ _ 1]
    rw [if_pos (show nextIs 91 ((64 :: 91 :: (dom ++ 93 :: t)).drop 1) = true from rfl), drop_left _ _ 2]
    have e2 : ((64 : UInt8) :: 91 :: (dom ++ 93 :: t)).drop 2 = dom ++ 93 :: t := rfl
    rw [e2, tw_all (P := wordB) (t := 93 :: t) (by intro b t' e; cases e; rfl) dom hw, Nat.add_assoc, drop_left _ _ (2 + dom.length)]
    have e3 : ((64 : UInt8) :: 91 :: (dom ++ 93 :: t)).drop (2 + dom.length) = 93 :: t := by
      rw [← List.drop_drop, e2, List.drop_left]
    rw [e3, if_pos (show nextIs 93 (93 :: t) = true from rfl), hl, small_mk, hs]
    simp
    omega
  | false =>
    have hd := h.doms rfl
    obtain ⟨b, d', hb, hlb⟩ := hd.head
    simp only [Bool.false_eq_true, if_false]
    rw [List.append_assoc]
    have e1 := local_back lo ((64 :: dom) ++ t) h.los (by rw [List.cons_append]; exact at_stop _) rfl
    unfold boxL
    rw [e1]
    simp only
    rw [if_pos trivial, show ((wroteL lo ++ ((64 :: dom) ++ t)).drop (wroteL lo).length) = (64 :: dom) ++ t from List.drop_left]
    rw [if_pos (show nextIs 64 ((64 :: dom) ++ t) = true from rfl), drop_left _ _ 1]
    have e2 : (((64 : UInt8) :: dom) ++ t).drop 1 = dom ++ t := rfl
    rw [e2, if_neg (by rw [hb]; show ¬ (b == 91) = true; rw [lab_not91 b hlb]; decide), hd.read ht h2]
    simp
    omega

def wroute : List (List UInt8) → List UInt8
  | [] => []
  | [d] => 64 :: d
  | d :: ds => 64 :: (d ++ 44 :: wroute ds)
theorem lab_stop_of (c : UInt8) (h : labB c = false) (t : List UInt8) : Stops labB (c :: t) := by
  intro b t' e
  cases e
  exact h
theorem route_back (t : List UInt8) : ∀ ds : List (List UInt8), ds ≠ [] → (∀ d, d ∈ ds → DomOK d) → routeL (wroute ds ++ 58 :: t) = (true, ds.map mkText, (wroute ds).length)
  | [], h, _ => absurd rfl h
  | [d], _, h => by
    have hd := h d (List.mem_cons_self ..)
    rw [routeL_eq]
    have e : in1L (wroute [d] ++ 58 :: t) = (true, mkText d, 1 + d.length) := by
      unfold in1L
      rw [if_pos (show nextIs 64 (wroute [d] ++ 58 :: t) = true from rfl)]
      have e2 : (wroute [d] ++ 58 :: t).drop 1 = d ++ 58 :: t := rfl
      rw [e2, hd.read (lab_stop_of 58 (by decide +kernel) t) rfl]
    rw [e]
    have e3 : (wroute [d] ++ 58 :: t).drop (1 + d.length) = 58 :: t := by
      show ((64 : UInt8) :: (d ++ 58 :: t)).drop (1 + d.length) = _
      rw [Nat.add_comm, List.drop_succ_cons, List.drop_left]
    simp only [if_true]
    rw [e3, if_neg (show ¬ nextIs 44 (58 :: t) = true by simp [nextIs])]
    simp [wroute]
    omega
  | d :: d2 :: ds, _, h => by
    have hd := h d (List.mem_cons_self ..)
    have ih := route_back t (d2 :: ds) (by simp) (fun x hx => h x (List.mem_cons_of_mem _ hx))
    have e0 : wroute (d :: d2 :: ds) ++ 58 :: t = 64 :: (d ++ 44 :: (wroute (d2 :: ds) ++ 58 :: t)) := by
      show (64 :: (d ++ 44 :: wroute (d2 :: ds))) ++ 58 :: t = _
      simp
    rw [routeL_eq, e0]
    have e : in1L (64 :: (d ++ 44 :: (wroute (d2 :: ds) ++ 58 :: t))) = (true, mkText d, 1 + d.length) := by
      unfold in1L
      rw [if_pos (show nextIs 64 (64 :: (d ++ 44 :: (wroute (d2 :: ds) ++ 58 :: t))) = true from rfl)]
      have e2 : ((64 : UInt8) :: (d ++ 44 :: (wroute (d2 :: ds) ++ 58 :: t))).drop 1 = d ++ 44 :: (wroute (d2 :: ds) ++ 58 :: t) := rfl
      rw [e2, hd.read (lab_stop_of 44 (by decide +kernel) _) rfl]
    rw [e]
    have e3 : ((64 : UInt8) :: (d ++ 44 :: (wroute (d2 :: ds) ++ 58 :: t))).drop (1 + d.length) = 44 :: (wroute (d2 :: ds) ++ 58 :: t) := by
      rw [Nat.add_comm, List.drop_succ_cons, List.drop_left]
    have e4 : ((64 : UInt8) :: (d ++ 44 :: (wroute (d2 :: ds) ++ 58 :: t))).drop (1 + d.length + 1) = wroute (d2 :: ds) ++ 58 :: t := by
      rw [← List.drop_drop, e3]
      rfl
    simp only [if_true]
    rw [e3, if_pos (show nextIs 44 (44 :: (wroute (d2 :: ds) ++ 58 :: t)) = true from rfl), e4, ih]
    simp [wroute]
    omega

theorem low_atom (b : UInt8) : lowB b ∈ ([112, 111, 115, 116, 109, 97, 115, 116, 101, 114] : List UInt8) → atomB b = true := forall_byte (Q := fun b => lowB b ∈ ([112, 111, 115, 116, 109, 97, 115, 116, 101, 114] : List UInt8) → atomB b = true) (by decide +kernel) b
theorem alone_box (l : List UInt8) (h : isAloneL l = true) : (boxL l).1 = false := by
  unfold isAloneL at h
  simp only [Bool.and_eq_true, decide_eq_true_eq] at h
  obtain ⟨⟨h1, h2⟩, h3⟩ := h
  rw [small_mk, ByteArray.toList_eq] at h2
  have h2' : (l.take 10).map lowB = [112, 111, 115, 116, 109, 97, 115, 116, 101, 114] := by simpa [mkText] using h2
  have ha : ∀ b, b ∈ l.take 10 → atomB b = true := fun b hb => low_atom b (by rw [← h2']; exact List.mem_map_of_mem hb)
  obtain ⟨c, t, hc⟩ : ∃ c t, l.drop 10 = c :: t := by
    cases hd : l.drop 10 with
    | nil => rw [hd] at h3; cases h3
    | cons c t => exact ⟨c, t, rfl⟩
  have hc62 : c = 62 := by rw [hc] at h3; simpa [nextIs] using h3
  subst hc62
  have e : l = l.take 10 ++ 62 :: t := by rw [← hc, List.take_append_drop]
  have hlen : (l.take 10).length = 10 := by rw [List.length_take]; omega
  have hst : Stops atomB (62 :: t) := by
    intro b t' e
    cases e
    decide +kernel
  have htw : l.takeWhile atomB = l.take 10 := by
    conv => lhs; rw [e]
    exact tw_all hst _ ha
  have hat : atomL l = (true, 10) := by
    unfold atomL
    rw [htw, hlen]
    rfl
  have hli : listL atomL 46 l = (true, 10) := by
    rw [listL_eq, hat]
    simp only [if_true]
    rw [hc, if_neg (show ¬ nextIs 46 (62 :: t) = true by simp [nextIs])]
  have hn : nextIs 34 l = false := by
    cases hl : l with
    | nil => rfl
    | cons b l' =>
      have hb : atomB b = true := ha b (by rw [hl]; simp)
      show (b == 34) = false
      simpa using atom_not34 b hb
  have hlo : localL l = (true, mkText (l.take 10), 10) := by
    unfold localL
    rw [if_neg (by rw [hn]; decide), hli]
  unfold boxL
  rw [hlo]
  simp only [if_true]
  rw [hc, if_neg (show ¬ nextIs 64 (62 :: t) = true by simp [nextIs])]
theorem alone_at (l : List UInt8) : isAloneL (64 :: l) = false := by
  cases h : isAloneL (64 :: l) with
  | false => rfl
  | true =>
    exfalso
    unfold isAloneL at h
    simp only [Bool.and_eq_true, decide_eq_true_eq] at h
    obtain ⟨⟨h1, h2⟩, h3⟩ := h
    rw [small_mk, ByteArray.toList_eq] at h2
    have h2' : ((64 :: l).take 10).map lowB = [112, 111, 115, 116, 109, 97, 115, 116, 101, 114] := by simpa [mkText] using h2
    rw [List.take_succ_cons, List.map_cons] at h2'
    have := (List.cons.inj h2').1
    revert this
    decide
def wpathL (ds : List (List UInt8)) (lo dom : List UInt8) (lit : Bool) : List UInt8 := match ds with
  | [] => wboxL lo dom lit
  | _ => wroute ds ++ 58 :: wboxL lo dom lit
theorem wroute_head (ds : List (List UInt8)) (h : ds ≠ []) : ∃ l, wroute ds = 64 :: l := by
  match ds, h with
  | [d], _ => exact ⟨_, rfl⟩
  | d :: d2 :: ds, _ => exact ⟨_, rfl⟩
theorem inner_back {ds : List (List UInt8)} {lo dom : List UInt8} {lit : Bool} (hds : ∀ d, d ∈ ds → DomOK d) (h : BoxOK lo dom lit) (t : List UInt8) :
    innerL (wpathL ds lo dom lit ++ 62 :: t) = (true, ds.map mkText, mkText lo, mkText dom, lit, (wpathL ds lo dom lit).length) := by
  have hb := box_back h (t := 62 :: t) (lab_stop_of 62 (by decide +kernel) t) rfl
  cases ds with
  | nil =>
    show innerL (wboxL lo dom lit ++ 62 :: t) = _
    unfold innerL
    have ha : isAloneL (wboxL lo dom lit ++ 62 :: t) = false := by
      cases ha : isAloneL (wboxL lo dom lit ++ 62 :: t) with
      | false => rfl
      | true =>
        have := alone_box _ ha
        rw [hb] at this
        cases this
    have hn : nextIs 64 (wboxL lo dom lit ++ 62 :: t) = false := by
      cases hn : nextIs 64 (wboxL lo dom lit ++ 62 :: t) with
      | false => rfl
      | true =>
        exfalso
        have h1 : (boxL (wboxL lo dom lit ++ 62 :: t)).1 = true := by rw [hb]
        generalize wboxL lo dom lit ++ 62 :: t = l at hn h1
        cases l with
        | nil => cases hn
        | cons b l =>
          have hb64 : b = 64 := by simpa [nextIs] using hn
          subst hb64
          have hlo : (localL (64 :: l)).1 = false := by
            unfold localL
            rw [if_neg (show ¬ nextIs 34 (64 :: l) = true by simp [nextIs])]
            show (listL atomL 46 (64 :: l)).1 = false
            rw [listL_eq]
            have : (atomL (64 :: l)).1 = false := by
              unfold atomL
              rw [List.takeWhile_cons_of_neg (by decide +kernel)]
              rfl
            rw [this]
            rfl
          unfold boxL at h1
          rw [hlo] at h1
          simp at h1
    rw [if_neg (by rw [ha]; decide), if_neg (by rw [hn]; decide), hb]
    rfl
  | cons d ds =>
    show innerL ((wroute (d :: ds) ++ 58 :: wboxL lo dom lit) ++ 62 :: t) = _
    rw [List.append_assoc, List.cons_append]
    have hr := route_back (wboxL lo dom lit ++ 62 :: t) (d :: ds) (by simp) hds
    obtain ⟨l, hl⟩ := wroute_head (d :: ds) (by simp)
    have hh : wroute (d :: ds) ++ 58 :: (wboxL lo dom lit ++ 62 :: t) = 64 :: (l ++ 58 :: (wboxL lo dom lit ++ 62 :: t)) := by rw [hl]; rfl
    unfold innerL
    rw [if_neg (by rw [hh, alone_at]; decide), if_pos (by rw [hh]; rfl), hr]
    simp only [if_true]
    rw [List.drop_left, if_pos (show nextIs 58 (58 :: (wboxL lo dom lit ++ 62 :: t)) = true from rfl), drop_left _ _ 1]
    have e : ((58 : UInt8) :: (wboxL lo dom lit ++ 62 :: t)).drop 1 = wboxL lo dom lit ++ 62 :: t := rfl
    rw [e, hb]
    simp [wpathL]
    omega
end Go.Proofs.YtokpnfljjjjikaaGreatDoor.PathL
