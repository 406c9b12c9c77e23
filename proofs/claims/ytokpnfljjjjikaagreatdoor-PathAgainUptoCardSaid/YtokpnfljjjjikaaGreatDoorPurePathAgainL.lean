/- What is read of any text is right; printed, it is read as the same: the plain law. -/
import Derived.Test.YtokpnfljjjjikaaGreatDoorPWrite
import Derived.Test.YtokpnfljjjjikaaGreatDoorQPathx14
namespace Go.Proofs.YtokpnfljjjjikaaGreatDoor.PathL
open Go.RowKit Go.Proofs.YtokpnfljjjjikaaGreatDoor Go.Proofs.YtokpnfljjjjikaaGreatDoor.QPath Go.Proofs.YtokpnfljjjjikaaGreatDoorW.PrintWords Go.Proofs.YtokpnfljjjjikaaGreatDoorW.PrintMore
set_option linter.unusedVariables false
set_option linter.unusedSimpArgs false

theorem bt_next {s : ByteArray} {p : Nat} {c : UInt8} (h : nextIs c (rest s p) = true) : p < s.size ∧ bt s (p : Int) = (c.toNat : Int) := by
  cases hr : rest s p with
  | nil => rw [hr] at h; cases h
  | cons b l =>
    obtain ⟨h1, h2, _⟩ := rest_cons hr
    rw [hr] at h
    have e : b = c := by simpa [nextIs] using h
    rw [← e]
    exact ⟨h1, h2⟩
theorem again_ok (k : Nat) (s : ByteArray) (hs : s.size < 4294967281) (a : Bool) (R : List ByteArray) (lo dom : ByteArray) (lit : Bool) (n : Nat) (hp : path_Parse.f (k + 1) s = some (a, R, lo, dom, lit, (n : Int), 0)) (h2 : 2 ≤ n) (hn : n ≤ s.size)
    (b0 : bt s 0 = 60) (b1 : bt s ((n - 1 : Nat) : Int) = 62) (hr : path_Right.f (k + 1) a R lo dom lit = some true) (hlo : lo.size ≤ 64) (hdom : dom.size ≤ 255) (h20 : R.length ≤ 20) (t : ByteArray) (hpr : path_Print.f k a R lo dom lit = some (t, 0)) (hpt : path_Parse.f k t = some (a, R, lo, dom, lit, (t.size : Int), 0)) (hle : t.size ≤ n) (hk : 110 ≤ k) :
    frankinglaw15_PathAgain.f (k + 1) s = some true := by
  have hw : wrap64 ((n : Int) - 1) = ((n - 1 : Nat) : Int) := by unfold wrap64; omega
  unfold frankinglaw15_PathAgain.f
  rw [hp]
  simp only [Option.bind_some, if_true]
  rw [if_neg (by omega), if_neg (by omega), if_pos (by omega), if_pos b0, hw, if_pos (by omega), if_pos (by omega), if_pos b1, hr]
  simp only [Option.bind_some, if_true]
  rw [if_neg (by omega), if_neg (by omega), decide_eq_false (by omega), frankinglaw15_PathAgain.j0, if_neg (by decide), hpr]
  simp only [Option.bind_some]
  rw [hpt]
  simp only [Option.bind_some, if_true]
  rw [if_pos (by omega), same_self a R lo dom lit k (by omega) (by omega)]
  simp only [Option.bind_some, if_true]
  rw [awake_more k (by omega)]
  rfl
theorem again_bad (k : Nat) (s : ByteArray) (z : Int) (hz : z = 150 ∨ z = 3) (hp : path_Parse.f k s = some (false, [], ⟨#[]⟩, ⟨#[]⟩, false, 0, z)) (hk : 110 ≤ k) : frankinglaw15_PathAgain.f k s = some true := by
  unfold frankinglaw15_PathAgain.f
  rw [hp]
  have hsame := same_self false [] ⟨#[]⟩ ⟨#[]⟩ false k (by simp; omega) (by simp)
  have haw := awake_more k (by omega)
  rcases hz with rfl | rfl
  · simp only [Option.bind_some]
    rw [if_neg (by decide), if_pos trivial, if_pos trivial, hsame]
    simp only [Option.bind_some, if_true]
    rw [haw]
    rfl
  · simp only [Option.bind_some]
    rw [if_neg (by decide), if_neg (by decide), if_pos trivial, if_pos trivial, hsame]
    simp only [Option.bind_some, if_true]
    rw [haw]
    rfl
theorem Right_null (k : Nat) : path_Right.f k true [] ⟨#[]⟩ ⟨#[]⟩ false = some true := by
  unfold path_Right.f
  rw [if_pos rfl, if_pos (by rfl)]
  decide +kernel
theorem Print_null (k : Nat) : path_Print.f k true [] ⟨#[]⟩ ⟨#[]⟩ false = some (mkText [60, 62], 0) := by
  unfold path_Print.f
  rw [Right_null]
  rfl
theorem Right_alone (k : Nat) : path_Right.f k false [] aloneText ⟨#[]⟩ false = some true := by
  unfold path_Right.f
  rw [if_neg (by decide), if_pos (by decide +kernel)]
  rfl
def aloneL : List UInt8 := [60, 112, 111, 115, 116, 109, 97, 115, 116, 101, 114, 62]
theorem Print_alone (k : Nat) : path_Print.f k false [] aloneText ⟨#[]⟩ false = some (mkText aloneL, 0) := by
  unfold path_Print.f
  rw [Right_alone]
  simp only [Option.bind_some, if_true]
  rw [if_neg (by decide), if_pos (by decide +kernel)]
  rfl
theorem alone_j0 (k : Nat) (hk : 20 < k) (s : ByteArray) (q : Int) : path_Parse.j0 k false s q false [] aloneText ⟨#[]⟩ false = some (false, [], aloneText, ⟨#[]⟩, false, q, 0) := by
  obtain ⟨k, rfl⟩ : ∃ k', k = k' + 1 := ⟨k - 1, by omega⟩
  have hw : path_within.f k aloneText ⟨#[]⟩ false = some true := by
    unfold path_within.f
    rw [if_pos (by decide +kernel), if_neg (by decide), short_eq ⟨#[]⟩ k (show 0 + 2 < k by omega), show shortB ⟨#[]⟩ = true from by decide +kernel]
    rfl
  rw [path_Parse.j0, if_neg (by decide), hw]
  simp only [Option.bind_some, if_true]
  rw [if_neg (by decide), parseAny (g := fun _ => false) (k0 := 0) (fun y hy => by cases hy) k (by simp; omega) (by simp)]
  rfl
theorem parse_alone (k : Nat) (hk : 30 < k) : path_Parse.f k (mkText aloneL) = some (false, [], aloneText, ⟨#[]⟩, false, 12, 0) := by
  rw [parse_syn (mkText aloneL) (by decide) k (by rw [mkText_size]; simp [aloneL]; omega) (by decide +kernel) (by decide +kernel)]
  have h : innerL ((mkText aloneL).data.toList.drop 1) = (true, [], aloneText, ⟨#[]⟩, false, 10) := by
    have ha : isAloneL ((mkText aloneL).data.toList.drop 1) = true := by decide +kernel
    unfold innerL
    rw [if_pos ha]
  rw [h]
  exact alone_j0 k (by omega) _ _
theorem mem_le (ds : List (List UInt8)) (d : List UInt8) (h : d ∈ ds) : d.length ≤ (wroute ds).length := by
  induction ds with
  | nil => cases h
  | cons e ds ih =>
    cases ds with
    | nil =>
      rw [List.mem_singleton.mp h]
      show _ ≤ (64 :: e).length
      simp
    | cons e2 ds =>
      have e0 : (wroute (e :: e2 :: ds)).length = e.length + (wroute (e2 :: ds)).length + 2 := by
        show (64 :: (e ++ 44 :: wroute (e2 :: ds))).length = _
        rw [List.length_cons, List.length_append, List.length_cons]
        omega
      rcases List.mem_cons.mp h with rfl | h
      · omega
      · have := ih h
        omega
theorem wpath_bounds (ds : List (List UInt8)) (lo dom : List UInt8) (lit : Bool) : (∀ d, d ∈ ds → d.length ≤ (wpathL ds lo dom lit).length) ∧ dom.length + 1 ≤ (wpathL ds lo dom lit).length := by
  have hb : dom.length + 1 ≤ (wboxL lo dom lit).length := by
    unfold wboxL
    rw [List.length_append]
    cases lit with
    | true => rw [if_pos rfl, List.length_cons, List.length_cons, List.length_append]; omega
    | false => rw [if_neg (by decide), List.length_cons]; omega
  cases ds with
  | nil => exact ⟨fun d hd => (by cases hd), hb⟩
  | cons e ds =>
    have e0 : (wpathL (e :: ds) lo dom lit).length = (wroute (e :: ds)).length + (wboxL lo dom lit).length + 1 := by
      show (wroute (e :: ds) ++ 58 :: wboxL lo dom lit).length = _
      rw [List.length_append, List.length_cons]
      omega
    refine ⟨fun d hd => ?_, by omega⟩
    have := mem_le _ d hd
    omega
theorem pathAgain_pure (s : ByteArray) (hs : s.size ≤ 1048576) : ∃ k, frankinglaw15_PathAgain.f k s = some true := by
  refine ⟨3000000 + 1, ?_⟩
  have hlen := data_length s
  by_cases hn : ∃ n, takesL s.data.toList n
  case neg => exact again_bad _ s 150 (.inl rfl) (parse_bad s (by omega) _ (by omega) (fun n h => hn ⟨n, h⟩)) (by omega)
  obtain ⟨n, hn⟩ := hn
  have hb := takesL_le hn
  rcases hn with ⟨h, rfl⟩ | ⟨h0, h, rfl⟩
  · have hp := parse_null s (by omega) (3000000 + 1) h
    unfold nullL at h
    simp only [Bool.and_eq_true] at h
    obtain ⟨_, b0⟩ := bt_next (s := s) (p := 0) (c := 60) h.1
    obtain ⟨_, b1⟩ := bt_next (s := s) (p := 1) (c := 62) h.2
    have hpt : path_Parse.f 3000000 (mkText [60, 62]) = some nullRes := parse_null _ (by decide) _ (by decide +kernel)
    exact again_ok 3000000 s (by omega) true [] ⟨#[]⟩ ⟨#[]⟩ false 2 hp (by omega) (by omega) b0 b1 (Right_null _) (by decide) (by decide) (by simp) (mkText [60, 62]) (Print_null _) hpt (by decide) (by omega)
  · have hp := parse_syn s (by omega) (3000000 + 1) (by omega) h0 h
    have hy := h
    unfold synL at hy
    simp only [Bool.and_eq_true] at hy
    obtain ⟨⟨y1, y2⟩, y3⟩ := hy
    obtain ⟨_, b0⟩ := bt_next (s := s) (p := 0) (c := 60) y1
    obtain ⟨hlt, b1⟩ := bt_next (s := s) (p := 1 + (innerL (s.data.toList.drop 1)).2.2.2.2.2) (c := 62) y3
    have e1 : 2 + (innerL (s.data.toList.drop 1)).2.2.2.2.2 - 1 = 1 + (innerL (s.data.toList.drop 1)).2.2.2.2.2 := by omega
    have hdl : (s.data.toList.drop 1).length < 4294967281 := by rw [List.length_drop]; omega
    by_cases ha : isAloneL (s.data.toList.drop 1) = true
    · have hi : innerL (s.data.toList.drop 1) = (true, [], aloneText, ⟨#[]⟩, false, 10) := by
        unfold innerL
        rw [if_pos ha]
      rw [hi] at hp b1 hlt hb e1
      simp only at hp b1 hlt hb e1
      rw [alone_j0 _ (by omega)] at hp
      exact again_ok 3000000 s (by omega) false [] aloneText ⟨#[]⟩ false 12 hp (by omega) (by omega) b0 b1 (Right_alone _) (by decide +kernel) (by decide) (by simp) (mkText aloneL) (Print_alone _) (parse_alone _ (by omega)) (by decide) (by omega)
    · obtain ⟨ds, lo, dom, lit, d1, d2, d3, d4, d5, d6⟩ := inner_ok _ hdl (Bool.eq_false_iff.mpr ha) y2
      obtain ⟨w1, w2⟩ := wpath_bounds ds lo dom lit
      obtain ⟨m, hm⟩ : ∃ m, (innerL (s.data.toList.drop 1)).2.2.2.2.2 = m := ⟨_, rfl⟩
      rw [hm] at d3 d4 hb b1 hlt e1
      rw [d3] at hp
      simp only at hp
      have hds : ds.length ≤ 1048600 := by
        have h1 := (innerL_size (s.data.toList.drop 1)).1
        rw [d3] at h1
        simp only [List.length_map, List.length_drop] at h1
        omega
      rcases j0_eq (3000000 + 1) s ((2 + m : Nat) : Int) ds lo dom lit 1048600 (fun d hd => Nat.le_trans (w1 d hd) (by omega)) (by omega) (by omega) (by omega) with ⟨hf, hj⟩ | hj
      · rw [hj] at hp
        have h255 : dom.length ≤ 255 := by
          cases hl : lit with
          | true => exact d6 hl
          | false =>
            have := short_size _ (hf.doms hl)
            rwa [mkText_size] at this
        have hne : wpathL ds lo dom lit ≠ [] := by
          intro e
          rw [e] at w2
          simp at w2
        have hpb := parse_back d1 d2 hf 1048600 (fun d hd => Nat.le_trans (w1 d hd) (by omega)) (by omega) (by omega) hne 3000000 (by omega) (by omega) [] (by simp; omega) (by simp; omega)
        have hsz : (mkText (60 :: (wpathL ds lo dom lit ++ [62]))).size = (wpathL ds lo dom lit).length + 2 := by
          rw [mkText_size, List.length_cons, List.length_append]
          rfl
        refine again_ok 3000000 s (by omega) false _ _ _ lit (2 + m) hp (by omega) (by omega) b0 (by rw [e1]; exact b1) (Right_ok d1 d2 hf d5 1048600 (fun d hd => Nat.le_trans (w1 d hd) (by omega)) (by omega) (by omega) _ (by omega)) (by rw [mkText_size]; exact hf.los) (by rw [mkText_size]; exact h255) (by rw [List.length_map]; exact hf.many) _ (Print_ok d1 d2 hf d5 1048600 (fun d hd => Nat.le_trans (w1 d hd) (by omega)) (by omega) (by omega) (by omega) 3000000 (by omega)) (by rw [hsz]; exact hpb) (by rw [hsz]; omega) (by omega)
      · exact again_bad _ s 3 (.inr rfl) (hp.trans hj) (by omega)
end Go.Proofs.YtokpnfljjjjikaaGreatDoor.PathL
