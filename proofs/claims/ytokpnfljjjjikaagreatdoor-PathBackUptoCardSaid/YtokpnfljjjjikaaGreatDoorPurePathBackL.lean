/- What is printed of a right path is read as that path, whatever stands behind it, and of a mailbox as that mailbox; what is not right is not printed: the plain law. -/
import Derived.Test.YtokpnfljjjjikaaGreatDoorPInv
import Derived.Test.YtokpnfljjjjikaaGreatDoorQPathx16
namespace Go.Proofs.YtokpnfljjjjikaaGreatDoor.PathL
open Go.RowKit Go.Proofs.YtokpnfljjjjikaaGreatDoor Go.Proofs.YtokpnfljjjjikaaGreatDoor.QPath Go.Proofs.YtokpnfljjjjikaaGreatDoorW.PrintWords Go.Proofs.YtokpnfljjjjikaaGreatDoorW.PrintMore
set_option linter.unusedVariables false
set_option linter.unusedSimpArgs false

theorem back_j1 (k : Nat) (hk : 110 ≤ k) (b : ByteArray) (f : Int) (a : Bool) (R : List ByteArray) (lo dom : ByteArray) (lit : Bool) (h : f = 0 → path_Mailbox.f k b = some (lo, dom, lit, 0)) :
    frankinglaw15_PathBack.j1 (k + 1) b f a R lo dom lit = some true := by
  rw [frankinglaw15_PathBack.j1]
  by_cases hf : f = 0
  · rw [if_pos hf, h hf]
    simp only [Option.bind_some, if_true]
    rw [if_neg (by simp), awake_more k (by omega)]
    rfl
  · rw [if_neg hf, awake_more k (by omega)]
    rfl
theorem back_j0 (k : Nat) (hk : 110 ≤ k) (more s : ByteArray) (e : Int) (b : ByteArray) (f : Int) (a : Bool) (R : List ByteArray) (lo dom : ByteArray) (lit : Bool) (hR : R.length + 2 < k) (hR2 : R.length < 4611686018427387904) (h : f = 0 → path_Mailbox.f k b = some (lo, dom, lit, 0))
    (he : e = 0 → s.size + more.size ≤ 9223372036854775807 ∧ path_Parse.f (k + 1) (s ++ more) = some (a, R, lo, dom, lit, (s.size : Int), 0) ∧ (f == 0) = (dom.toList != ([] : List UInt8))) :
    frankinglaw15_PathBack.j0 (k + 2) more s e b f false a R lo dom lit = some true := by
  have h1 := back_j1 k hk b f a R lo dom lit h
  rw [frankinglaw15_PathBack.j0, if_neg (by decide)]
  by_cases h0 : e = 0
  · obtain ⟨e1, e2, e3⟩ := he h0
    rw [if_pos h0, if_pos e1, e2]
    simp only [Option.bind_some, if_true]
    rw [same_self a R lo dom lit (k + 1) (by omega) hR2]
    simp only [Option.bind_some, if_true]
    rw [if_neg (by rw [e3]; simp), h1]
  · rw [if_neg h0, h1]
theorem back_f (k : Nat) (more s : ByteArray) (e : Int) (b : ByteArray) (f : Int) (a : Bool) (R : List ByteArray) (lo dom : ByteArray) (lit t : Bool)
    (hp : path_Print.f k a R lo dom lit = some (s, e)) (hb : path_PrintBox.f k lo dom lit = some (b, f)) (hr : path_Right.f k a R lo dom lit = some t)
    (ht : (e == 0) = t) (he : e = 0 ∨ e = 150 ∧ s.toList = []) (hf : f = 0 ∨ f = 150 ∧ b.toList = [])
    (hj : frankinglaw15_PathBack.j0 k more s e b f false a R lo dom lit = some true) : frankinglaw15_PathBack.f k a R lo dom lit more = some true := by
  unfold frankinglaw15_PathBack.f
  rw [hp, hb, hr]
  simp only [Option.bind_some]
  rw [if_neg (by rw [ht]; simp)]
  rcases hf with rfl | ⟨rfl, hf⟩
  · rcases he with rfl | ⟨rfl, he⟩
    · simp only [if_true]
      exact hj
    · rw [if_neg (by decide), if_pos rfl, if_pos he]
      simp only [if_true]
      exact hj
  · have hn : (b.toList != ([] : List UInt8)) = false := by rw [hf]; rfl
    rw [hn]
    rcases he with rfl | ⟨rfl, he⟩
    · rw [if_pos rfl, if_neg (by decide), if_pos rfl]
      exact hj
    · rw [if_neg (by decide), if_pos rfl, if_pos he, if_neg (by decide), if_pos rfl]
      exact hj

theorem Print_null (k : Nat) (h : path_Right.f k true [] ⟨#[]⟩ ⟨#[]⟩ false = some true) : path_Print.f k true [] ⟨#[]⟩ ⟨#[]⟩ false = some (mkText [60, 62], 0) := by
  unfold path_Print.f
  rw [h]
  rfl
def aloneL : List UInt8 := [60, 112, 111, 115, 116, 109, 97, 115, 116, 101, 114, 62]
theorem Print_alone (k : Nat) (h : path_Right.f k false [] aloneText ⟨#[]⟩ false = some true) : path_Print.f k false [] aloneText ⟨#[]⟩ false = some (mkText aloneL, 0) := by
  unfold path_Print.f
  rw [h]
  simp only [Option.bind_some, if_true]
  rw [if_neg (by decide), if_pos (by decide +kernel)]
  rfl
theorem alone_j0 (k : Nat) (hk : 20 < k) (s : ByteArray) (q : Int) : path_Parse.j0 k false s q false [] aloneText ⟨#[]⟩ false = some (false, [], aloneText, ⟨#[]⟩, false, q, 0) := by
  obtain ⟨k, rfl⟩ : ∃ k', k = k' + 1 := ⟨k - 1, by omega⟩
  have hw : path_within.f k aloneText ⟨#[]⟩ false = some true := by
    unfold path_within.f
    rw [if_pos (by decide +kernel), if_neg (by decide), short_eq ⟨#[]⟩ k (show 0 + 2 < k by omega), show shortB ⟨#[]⟩ = true from by decide +kernel]
    rfl
  rw [path_Parse.j0, if_neg (by decide), hw]
  simp only [Option.bind_some, if_true]
  rw [if_neg (by decide), parseAny (g := fun _ => false) (k0 := 0) (fun y hy => by cases hy) k (by simp; omega) (by simp)]
  rfl
theorem alone_more (t : List UInt8) : isAloneL (112 :: 111 :: 115 :: 116 :: 109 :: 97 :: 115 :: 116 :: 101 :: 114 :: 62 :: t) = true := by
  have h1 : (path_small.g (mkText ([112, 111, 115, 116, 109, 97, 115, 116, 101, 114] : List UInt8))).toList == ([112, 111, 115, 116, 109, 97, 115, 116, 101, 114] : List UInt8) := by decide +kernel
  unfold isAloneL
  have h2 : (112 :: 111 :: 115 :: 116 :: 109 :: 97 :: 115 :: 116 :: 101 :: 114 :: 62 :: t).take 10 = ([112, 111, 115, 116, 109, 97, 115, 116, 101, 114] : List UInt8) := rfl
  have h3 : (112 :: 111 :: 115 :: 116 :: 109 :: 97 :: 115 :: 116 :: 101 :: 114 :: 62 :: t).drop 10 = (62 :: t : List UInt8) := rfl
  rw [h2, h3, h1, decide_eq_true (by simp only [List.length_cons]; omega)]
  rfl
theorem parse_alone (t : List UInt8) (ht : t.length < 4294960000) (k : Nat) (hk : t.length + 40 < k) : path_Parse.f k (mkText (aloneL ++ t)) = some (false, [], aloneText, ⟨#[]⟩, false, 12, 0) := by
  have hd : (mkText (aloneL ++ t)).data.toList = 60 :: 112 :: 111 :: 115 :: 116 :: 109 :: 97 :: 115 :: 116 :: 101 :: 114 :: 62 :: t := rfl
  have h : innerL (112 :: 111 :: 115 :: 116 :: 109 :: 97 :: 115 :: 116 :: 101 :: 114 :: 62 :: t) = (true, [], aloneText, ⟨#[]⟩, false, 10) := by
    unfold innerL
    rw [if_pos (alone_more t)]
  have hd1 : (60 :: 112 :: 111 :: 115 :: 116 :: 109 :: 97 :: 115 :: 116 :: 101 :: 114 :: 62 :: t : List UInt8).drop 1 = 112 :: 111 :: 115 :: 116 :: 109 :: 97 :: 115 :: 116 :: 101 :: 114 :: 62 :: t := rfl
  have hsz : (mkText (aloneL ++ t)).size = t.length + 12 := by
    rw [mkText_size, List.length_append, Nat.add_comm]
    rfl
  rw [parse_syn _ (by omega) k (by omega) (by rw [hd]; rfl) (by
    rw [hd]
    unfold synL
    rw [hd1, h]
    rfl), hd, hd1, h]
  exact alone_j0 k (by omega) _ _

theorem qL_le : ∀ l : List UInt8, (qL l).length ≤ 2 * l.length
  | [] => Nat.le_refl _
  | b :: l => by
    have ih := qL_le l
    have e : qL (b :: l) = qB b ++ qL l := rfl
    have hb : (qB b).length ≤ 2 := by
      unfold qB
      split <;> simp
    rw [e, List.length_append, List.length_cons]
    omega
theorem wroteL_le (l : List UInt8) : (wroteL l).length ≤ 2 * l.length + 2 := by
  have := qL_le l
  unfold wroteL
  split
  · omega
  · rw [List.length_cons, List.length_append, List.length_singleton]
    omega
theorem wboxL_le (lo dom : List UInt8) (lit : Bool) : (wboxL lo dom lit).length ≤ 2 * lo.length + dom.length + 5 := by
  have := wroteL_le lo
  unfold wboxL
  rw [List.length_append]
  cases lit with
  | true =>
    rw [if_pos rfl, List.length_cons, List.length_cons, List.length_append, List.length_singleton]
    omega
  | false =>
    rw [if_neg (by decide), List.length_cons]
    omega
theorem wroute_le (M : Nat) : ∀ ds : List (List UInt8), (∀ d, d ∈ ds → d.length ≤ M) → (wroute ds).length ≤ ds.length * (M + 2)
  | [], _ => Nat.zero_le _
  | [d], h => by
    have := h d (List.mem_cons_self ..)
    show (64 :: d).length ≤ 1 * (M + 2)
    rw [List.length_cons]
    omega
  | d :: d2 :: ds, h => by
    have h1 := h d (List.mem_cons_self ..)
    have ih := wroute_le M (d2 :: ds) (fun x hx => h x (List.mem_cons_of_mem _ hx))
    show (64 :: (d ++ 44 :: wroute (d2 :: ds))).length ≤ ((d2 :: ds).length + 1) * (M + 2)
    rw [List.length_cons, List.length_append, List.length_cons, Nat.add_mul, Nat.one_mul]
    omega
theorem wpathL_le {ds : List (List UInt8)} {lo dom : List UInt8} {lit : Bool} (hf : Fits ds lo dom lit) : (wpathL ds lo dom lit).length ≤ dom.length + 6000 := by
  have hb := wboxL_le lo dom lit
  have h64 := hf.los
  cases ds with
  | nil =>
    show (wboxL lo dom lit).length ≤ _
    omega
  | cons d ds =>
    have hw := wroute_le 255 (d :: ds) (fun x hx => by have := short_size _ (hf.each x hx); rwa [mkText_size] at this)
    have h20 : (d :: ds).length * (255 + 2) ≤ 20 * 257 := Nat.mul_le_mul hf.many (Nat.le_refl _)
    show (wroute (d :: ds) ++ 58 :: wboxL lo dom lit).length ≤ _
    rw [List.length_append, List.length_cons]
    omega
theorem wpath_bounds (ds : List (List UInt8)) (lo dom : List UInt8) (lit : Bool) : dom.length + 1 ≤ (wpathL ds lo dom lit).length := by
  have hb : dom.length + 1 ≤ (wboxL lo dom lit).length := by
    unfold wboxL
    rw [List.length_append]
    cases lit with
    | true => rw [if_pos rfl, List.length_cons, List.length_cons, List.length_append]; omega
    | false => rw [if_neg (by decide), List.length_cons]; omega
  cases ds with
  | nil => exact hb
  | cons e ds =>
    show _ ≤ (wroute (e :: ds) ++ 58 :: wboxL lo dom lit).length
    rw [List.length_append, List.length_cons]
    omega

theorem mk_data (s : ByteArray) : mkText s.data.toList = s := by
  obtain ⟨⟨l⟩⟩ := s
  rfl
theorem mk_map (R : List ByteArray) : (R.map fun y => y.data.toList).map mkText = R := by
  rw [List.map_map]
  have : mkText ∘ (fun y : ByteArray => y.data.toList) = id := by
    funext y
    exact mk_data y
  rw [this, List.map_id]
theorem back_lists (a : Bool) (ds : List (List UInt8)) (lo dom more : List UInt8) (lit : Bool) (M : Nat) (hM : M = 1048576) (hds : ds.length ≤ M) (hd : ∀ d, d ∈ ds → d.length ≤ M) (hlo : lo.length ≤ M) (hdom : dom.length ≤ M) (hmore : more.length ≤ M) :
    frankinglaw15_PathBack.f 5000002 a (ds.map mkText) (mkText lo) (mkText dom) lit (mkText more) = some true := by
  have hlen : (ds.map mkText).length = ds.length := List.length_map ..
  have hright := Right_val a ds lo dom lit M hd hlo hdom (by omega) 5000002 (by omega)
  have hbox := PrintBox_val lo dom lit (by omega) (by omega) 5000002 (by omega)
  -- a mailbox that is printed is read as it
  have hmb : ∀ b f, (if boxedB lo dom lit = true then (mkText (wboxL lo dom lit), (0 : Int)) else (⟨#[]⟩, 150)) = (b, f) → (f = 0 ∨ f = 150 ∧ b.toList = []) ∧ (f = 0 → path_Mailbox.f 5000000 b = some (mkText lo, mkText dom, lit, 0)) := by
    intro b f e
    cases hb : boxedB lo dom lit with
    | true =>
      rw [hb, if_pos rfl] at e
      obtain ⟨rfl, rfl⟩ := Prod.mk.inj e
      obtain ⟨h1, h2, h3, h4⟩ := boxedB_ok (by omega) hb
      have := wboxL_le lo dom lit
      exact ⟨.inl rfl, fun _ => Mailbox_back h1 (fits_nil h2 h3) (by omega) 5000000 (by omega)⟩
    | false =>
      rw [hb, if_neg (by decide)] at e
      obtain ⟨rfl, rfl⟩ := Prod.mk.inj e
      exact ⟨.inr ⟨rfl, toList_mk []⟩, fun h => absurd h (by decide)⟩
  obtain ⟨b, f, hbf⟩ : ∃ b f, (if boxedB lo dom lit = true then (mkText (wboxL lo dom lit), (0 : Int)) else (⟨#[]⟩, 150)) = (b, f) := ⟨_, _, rfl⟩
  obtain ⟨hf, hm⟩ := hmb b f hbf
  have hbox2 := hbox
  rw [hbf] at hbox2
  cases hr : rightB a ds lo dom lit with
  | false =>
    rw [hr] at hright
    refine back_f 5000002 (mkText more) ⟨#[]⟩ 150 b f a _ _ _ lit false (Print_bad hright) hbox2 hright rfl (.inr ⟨rfl, toList_mk []⟩) hf ?_
    exact back_j0 5000000 (by omega) _ _ _ b f a _ _ _ lit (by omega) (by omega) hm (fun h => absurd h (by decide))
  | true =>
    rw [hr] at hright
    cases a with
    | true =>
      rw [rightB_true] at hr
      simp only [Bool.and_eq_true, decide_eq_true_eq, Bool.not_eq_true'] at hr
      obtain ⟨⟨rfl, rfl, rfl⟩, rfl⟩ := hr
      have hbn := boxedB_none []
      rw [hbn, if_neg (by decide)] at hbf
      obtain ⟨rfl, rfl⟩ := Prod.mk.inj hbf
      refine back_f 5000002 (mkText more) (mkText [60, 62]) 0 _ _ true _ _ _ false true (Print_null _ hright) hbox2 hright rfl (.inl rfl) hf ?_
      refine back_j0 5000000 (by omega) _ _ _ _ _ true _ _ _ false (by simp) (by simp) hm (fun _ => ⟨by simp only [mkText_size, List.length_cons, List.length_nil]; omega, ?_, by rw [toList_mk]; rfl⟩)
      exact parse_null _ (by rw [app_mk, mkText_size]; simp only [List.length_append, List.length_cons, List.length_nil]; omega) _ (by rw [app_mk]; rfl)
    | false =>
      by_cases hp : lo = [112, 111, 115, 116, 109, 97, 115, 116, 101, 114] ∧ dom = [] ∧ lit = false
      · obtain ⟨rfl, rfl, rfl⟩ := hp
        rw [rightB_alone] at hr
        obtain rfl := of_decide_eq_true hr
        have hbn := boxedB_none [112, 111, 115, 116, 109, 97, 115, 116, 101, 114]
        rw [hbn, if_neg (by decide)] at hbf
        obtain ⟨rfl, rfl⟩ := Prod.mk.inj hbf
        refine back_f 5000002 (mkText more) (mkText aloneL) 0 _ _ false _ _ _ false true (Print_alone _ hright) hbox2 hright rfl (.inl rfl) hf ?_
        refine back_j0 5000000 (by omega) _ _ _ _ _ false _ _ _ false (by simp) (by simp) hm (fun _ => ⟨by rw [mkText_size, mkText_size]; simp only [aloneL, List.length_cons, List.length_nil]; omega, ?_, by rw [toList_mk]; rfl⟩)
        rw [app_mk]
        exact parse_alone more (by omega) _ (by omega)
      · obtain ⟨hb, d1, d2, d3, d4⟩ := rightB_ok (by omega) hp hr
        rw [hb, if_pos rfl] at hbf
        obtain ⟨rfl, rfl⟩ := Prod.mk.inj hbf
        have hw := wpathL_le d3
        have hw2 := wpath_bounds ds lo dom lit
        have hsz : (mkText (60 :: (wpathL ds lo dom lit ++ [62]))).size = (wpathL ds lo dom lit).length + 2 := by
          rw [mkText_size, List.length_cons, List.length_append]
          rfl
        refine back_f 5000002 (mkText more) _ 0 _ _ false _ _ _ lit true (Print_ok d1 d2 d3 d4 M hd hdom (by omega) (by omega) 5000002 (by omega)) hbox2 hright rfl (.inl rfl) hf ?_
        refine back_j0 5000000 (by omega) _ _ _ _ _ false _ _ _ lit (by omega) (by omega) hm (fun _ => ⟨by rw [hsz, mkText_size]; omega, ?_, ?_⟩)
        · rw [app_mk, hsz]
          have e : 60 :: (wpathL ds lo dom lit ++ [62]) ++ more = 60 :: (wpathL ds lo dom lit ++ 62 :: more) := by simp
          rw [e]
          exact parse_back d1 d2 d3 M hd hdom (by omega) (by
            intro h0
            rw [h0] at hw2
            simp at hw2) 5000001 (by omega) (by omega) more (by omega) (by omega)
        · rw [toList_mk]
          cases hdd : dom with
          | nil => exact absurd hdd d4
          | cons c l => rfl
theorem pathBack_pure (a : Bool) (R : List ByteArray) (lo dom more : ByteArray) (lit : Bool) (hR : R.length ≤ 1048576) (hRs : ∀ y, y ∈ R → y.size ≤ 1048576) (hlo : lo.size ≤ 1048576) (hdom : dom.size ≤ 1048576) (hmore : more.size ≤ 1048576) :
    ∃ k, frankinglaw15_PathBack.f k a R lo dom lit more = some true := by
  refine ⟨5000002, ?_⟩
  have h := back_lists a (R.map fun y => y.data.toList) lo.data.toList dom.data.toList more.data.toList lit 1048576 rfl (by rw [List.length_map]; exact hR) (fun d hd => by
    obtain ⟨y, hy, rfl⟩ := List.mem_map.mp hd
    rw [data_length]
    exact hRs y hy) (by rw [data_length]; exact hlo) (by rw [data_length]; exact hdom) (by rw [data_length]; exact hmore)
  rw [mk_map, mk_data, mk_data, mk_data] at h
  exact h
end Go.Proofs.YtokpnfljjjjikaaGreatDoor.PathL
