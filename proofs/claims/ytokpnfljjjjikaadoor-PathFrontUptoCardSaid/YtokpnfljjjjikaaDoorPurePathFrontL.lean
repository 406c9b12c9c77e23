/- No path is the beginning of another one: the plain law. -/
import Derived.Test.YtokpnfljjjjikaaDoorPFront
import Derived.Test.YtokpnfljjjjikaaDoorQPathx9
namespace Go.Proofs.YtokpnfljjjjikaaDoor.PathL
open Go.RowKit Go.Proofs.YtokpnfljjjjikaaDoor Go.Proofs.YtokpnfljjjjikaaDoor.QPath Go.Proofs.YtokpnfljjjjikaaDoorW.PrintWords Go.Proofs.YtokpnfljjjjikaaDoorW.PrintMore

abbrev PathRes := Bool × List ByteArray × ByteArray × ByteArray × Bool × Int × Int
def badRes : PathRes := (false, [], ⟨#[]⟩, ⟨#[]⟩, false, 0, 150)
def nullRes : PathRes := (true, [], ⟨#[]⟩, ⟨#[]⟩, false, 2, 0)
theorem rest_zero (s : ByteArray) : rest s 0 = s.data.toList := rfl
theorem prefix_eq (s : ByteArray) (hs : s.size < 4611686018427387904) : strings_HasPrefix.f s ⟨#[60, 62]⟩ = some (nullL s.data.toList) := by
  have hlen := data_length s
  unfold strings_HasPrefix.f stringslite_HasPrefix.f
  have h2 : ((⟨#[60, 62]⟩ : ByteArray).size : Int) = 2 := rfl
  rw [h2]
  by_cases h : 2 ≤ s.size
  · rw [if_pos (by omega), if_pos (by omega), if_pos (by omega)]
    simp only [Option.bind_some]
    congr 1
    have e : s.extract 0 ((2 : Int)).toNat = mkText (s.data.toList.take 2) := by
      have := extract_rest s 0 2 (by omega)
      simpa [rest_zero] using this
    rw [e, ByteArray.toList_eq, ByteArray.toList_eq]
    show (s.data.toList.take 2 == [60, 62]) = _
    unfold nullL
    rcases hl : s.data.toList with _ | ⟨a, _ | ⟨b, l⟩⟩
    · rw [hl] at hlen; simp at hlen; omega
    · rw [hl] at hlen; simp at hlen; omega
    · show ([a, b] == [60, 62]) = ((a == 60) && (b == 62))
      simp [BEq.beq, List.beq]
  · rw [if_neg (by omega)]
    simp only [Option.bind_some]
    congr 1
    unfold nullL
    rcases hl : s.data.toList with _ | ⟨a, _ | ⟨b, l⟩⟩
    · rfl
    · show false = ((a == 60) && false)
      rw [Bool.and_false]
    · rw [hl] at hlen; simp at hlen; omega
theorem j0_bad (k : Nat) (hk : 0 < k) (s : ByteArray) (q : Int) (a : Bool) (b : List ByteArray) (c d : ByteArray) (e : Bool) : path_Parse.j0 k true s q a b c d e = some badRes := by
  obtain ⟨k, rfl⟩ : ∃ k', k = k' + 1 := ⟨k - 1, by omega⟩
  rw [path_Parse.j0, if_pos rfl]
  rfl
/-- What is told of a path that was read. -/
theorem parse_null (s : ByteArray) (hs : s.size < 4294967281) (k : Nat) (h : nullL s.data.toList = true) : path_Parse.f k s = some nullRes := by
  unfold path_Parse.f
  rw [prefix_eq s (by omega)]
  simp only [Option.bind_some]
  rw [if_pos h]
  rfl
theorem parse_syn (s : ByteArray) (hs : s.size < 4294967281) (k : Nat) (hk : s.size + 6 < k) (h0 : nullL s.data.toList = false) (h : synL s.data.toList = true) :
    path_Parse.f k s = path_Parse.j0 k false s ((2 + (innerL (s.data.toList.drop 1)).2.2.2.2.2 : Nat) : Int) false (innerL (s.data.toList.drop 1)).2.1 (innerL (s.data.toList.drop 1)).2.2.1 (innerL (s.data.toList.drop 1)).2.2.2.1 (innerL (s.data.toList.drop 1)).2.2.2.2.1 := by
  unfold synL at h
  simp only [Bool.and_eq_true] at h
  obtain ⟨⟨h1, h2⟩, h3⟩ := h
  have hpos := nextIs_pos h1
  rw [data_length] at hpos
  unfold path_Parse.f
  rw [prefix_eq s (by omega)]
  simp only [Option.bind_some]
  rw [if_neg (by rw [h0]; decide)]
  rw [show (0 : Int) = ((0 : Nat) : Int) from rfl, take_eq s 0 60 60 rfl (by omega), rest_zero, if_pos h1]
  simp only [Option.bind_some, Nat.zero_add]
  have hr1 : rest s 1 = s.data.toList.drop 1 := rfl
  rw [inner_eq s hs k 1 (by rw [rest_length]; omega) (by omega), hr1]
  simp only [Option.bind_some]
  rw [if_pos h1, if_pos h2, take_eq s _ 62 62 rfl (by omega)]
  have hr2 : rest s (1 + (innerL (s.data.toList.drop 1)).2.2.2.2.2) = s.data.toList.drop (1 + (innerL (s.data.toList.drop 1)).2.2.2.2.2) := rfl
  rw [hr2, h3]
  simp only [Option.bind_some, if_true, Bool.not_true]
  rw [show 1 + (innerL (s.data.toList.drop 1)).2.2.2.2.2 + 1 = 2 + (innerL (s.data.toList.drop 1)).2.2.2.2.2 from by omega]
theorem parse_bad (s : ByteArray) (hs : s.size < 4294967281) (k : Nat) (hk : s.size + 6 < k) (h : ∀ n, ¬ takesL s.data.toList n) : path_Parse.f k s = some badRes := by
  have h0 : nullL s.data.toList = false := by
    cases hn : nullL s.data.toList with
    | false => rfl
    | true => exact absurd (.inl ⟨hn, rfl⟩) (h 2)
  have hs0 : ¬ synL s.data.toList = true := fun hy => h _ (.inr ⟨h0, hy, rfl⟩)
  unfold path_Parse.f
  rw [prefix_eq s (by omega)]
  simp only [Option.bind_some]
  rw [if_neg (by rw [h0]; decide)]
  rw [show (0 : Int) = ((0 : Nat) : Int) from rfl, take_eq s 0 60 60 rfl (by omega), rest_zero]
  simp only [Option.bind_some]
  by_cases h1 : nextIs 60 s.data.toList = true
  · have hpos := nextIs_pos h1
    rw [data_length] at hpos
    have hr1 : rest s 1 = s.data.toList.drop 1 := rfl
    rw [if_pos h1]
    simp only [Nat.zero_add]
    rw [inner_eq s hs k 1 (by rw [rest_length]; omega) (by omega), hr1]
    simp only [Option.bind_some]
    rw [if_pos h1]
    by_cases h2 : (innerL (s.data.toList.drop 1)).1 = true
    · rw [if_pos h2, take_eq s _ 62 62 rfl (by omega)]
      simp only [Option.bind_some]
      have hr2 : rest s (1 + (innerL (s.data.toList.drop 1)).2.2.2.2.2) = s.data.toList.drop (1 + (innerL (s.data.toList.drop 1)).2.2.2.2.2) := rfl
      have h3 : nextIs 62 (rest s (1 + (innerL (s.data.toList.drop 1)).2.2.2.2.2)) = false := by
        rw [hr2]
        cases h3 : nextIs 62 (s.data.toList.drop (1 + (innerL (s.data.toList.drop 1)).2.2.2.2.2)) with
        | false => rfl
        | true => exact absurd (by unfold synL; rw [h1, h2, h3]; rfl) hs0
      rw [h3]
      exact j0_bad k (by omega) _ _ _ _ _ _ _
    · rw [if_neg h2]
      exact j0_bad k (by omega) _ _ _ _ _ _ _
  · rw [if_neg h1]
    rw [inner_eq s hs k 0 (by rw [rest_length]; omega) (by omega)]
    simp only [Option.bind_some]
    rw [if_neg h1]
    exact j0_bad k (by omega) _ _ _ _ _ _ _
theorem j0_any (k : Nat) (s s2 : ByteArray) (q : Int) (a : Bool) (b : List ByteArray) (c d : ByteArray) (e : Bool) : path_Parse.j0 k false s q a b c d e = path_Parse.j0 k false s2 q a b c d e := by
  cases k with
  | zero => rfl
  | succ k => rw [path_Parse.j0, path_Parse.j0]
/-- Parse tells something of each text. -/
theorem parse_some (s : ByteArray) (hs : s.size < 4294967281) (k : Nat) (hk : 2 * s.size + 10 < k) : ∃ r, path_Parse.f k s = some r := by
  by_cases h : ∃ n, takesL s.data.toList n
  · obtain ⟨n, ⟨h, _⟩ | ⟨h0, h, _⟩⟩ := h
    · exact ⟨_, parse_null s hs k h⟩
    · rw [parse_syn s hs k (by omega) h0 h]
      obtain ⟨h1, h2, h3⟩ := innerL_size (s.data.toList.drop 1)
      rw [List.length_drop, data_length] at h1 h2 h3
      exact tail_some k s _ false _ _ _ _ s.size (fun y hy => Nat.le_trans (h2 y hy) (by omega)) (by omega) (by omega) (by omega)
  · exact ⟨_, parse_bad s hs k (by omega) (fun n hn => h ⟨n, hn⟩)⟩
/-- What Parse tells of a text that begins with a path is told of each text that begins so. -/
theorem parse_front (s s2 : ByteArray) (hs : s.size < 4294967281) (hs2 : s2.size < 4294967281) (k : Nat) (hk : s.size + 6 < k) (hk2 : s2.size + 6 < k) {n : Nat} (h : takesL s.data.toList n) (ht : s2.data.toList.take n = s.data.toList.take n) : path_Parse.f k s2 = path_Parse.f k s := by
  obtain ⟨h2, en, ei⟩ := front h ht
  rcases h with ⟨h, _⟩ | ⟨h0, h, _⟩
  · rw [parse_null s hs k h, parse_null s2 hs2 k (en.trans h)]
  · have hy : synL s2.data.toList = true := by
      rcases h2 with ⟨h2, _⟩ | ⟨_, h2, _⟩
      · rw [en, h0] at h2; cases h2
      · exact h2
    rw [parse_syn s hs k hk h0 h, parse_syn s2 hs2 k hk2 (en.trans h0) hy, ei h0]
    exact j0_any _ _ _ _ _ _ _ _ _
/-- If Parse is content, it took a path. -/
theorem parse_ok (s : ByteArray) (hs : s.size < 4294967281) (k : Nat) (hk : s.size + 6 < k) {a : Bool} {b : List ByteArray} {c d : ByteArray} {e : Bool} {q : Int} (h : path_Parse.f k s = some (a, b, c, d, e, q, 0)) : ∃ n : Nat, q = n ∧ takesL s.data.toList n := by
  by_cases hn : ∃ n, takesL s.data.toList n
  · obtain ⟨n, hn⟩ := hn
    refine ⟨n, ?_, hn⟩
    rcases hn with ⟨h1, rfl⟩ | ⟨h0, h1, rfl⟩
    · rw [parse_null s hs k h1] at h
      simp only [nullRes, Option.some.injEq, Prod.mk.injEq] at h
      omega
    · rw [parse_syn s hs k hk h0 h1] at h
      obtain ⟨k, rfl⟩ : ∃ k', k = k' + 1 := ⟨k - 1, by omega⟩
      rw [path_Parse.j0, if_neg (by decide)] at h
      obtain ⟨w, _, h⟩ := Option.bind_eq_some_iff.mp h
      split at h
      · split at h
        · simp at h
        · obtain ⟨w2, _, h⟩ := Option.bind_eq_some_iff.mp h
          split at h
          · simp at h
          · simp only [Option.some.injEq, Prod.mk.injEq] at h
            omega
      · simp at h
  · rw [parse_bad s hs k hk (fun n h => hn ⟨n, h⟩)] at h
    simp [badRes] at h
theorem same_run (b : List ByteArray) (c d c2 d2 : ByteArray) (a e a2 e2 : Bool) : ∀ (k i : Nat), b.length - i < k → i ≤ b.length → b.length < 4611686018427387904 → frankinglaw15_Same.l0 k (b.length : Int) (i : Int) a b c d e a2 b c2 d2 e2 = some true
  | 0, _, h, _, _ => absurd h (Nat.not_lt_zero _)
  | k + 1, i, h, hi, hl => by
    unfold frankinglaw15_Same.l0
    by_cases hlt : i < b.length
    · rw [if_pos (by omega), if_pos (by omega), if_pos (by omega), if_pos (by omega), if_pos rfl, wrapS i (by omega)]
      exact same_run b c d c2 d2 a e a2 e2 k (i + 1) (by omega) (by omega) hl
    · rw [if_neg (by omega)]
theorem same_self (a : Bool) (b : List ByteArray) (c d : ByteArray) (e : Bool) (k : Nat) (hk : b.length + 2 < k) (hl : b.length < 4611686018427387904) : frankinglaw15_Same.f k a b c d e a b c d e = some true := by
  unfold frankinglaw15_Same.f
  obtain ⟨k, rfl⟩ : ∃ k', k = k' + 1 := ⟨k - 1, by omega⟩
  rw [if_neg (by simp), if_neg (by simp), frankinglaw15_Same.j0, if_neg (by simp)]
  exact same_run b c d c d a e a e k 0 (by omega) (Nat.zero_le _) hl
theorem awake_true : frankinglaw15_awake.f 100 = some true := by decide +kernel
theorem awake_more (k : Nat) (hk : 100 ≤ k) : frankinglaw15_awake.f k = some true := at_rounds (fun k => frankinglaw15_awake.mono k) hk awake_true
theorem extract_data (s : ByteArray) (n : Nat) : (s.extract 0 n).data.toList = s.data.toList.take n := by
  have := extract_rest s 0 n (Nat.zero_le _)
  rw [this]
  rfl
/-- Route and length of what is told. -/
theorem parse_route (s : ByteArray) (hs : s.size < 4294967281) (k : Nat) (hk : s.size + 6 < k) {a : Bool} {b : List ByteArray} {c d : ByteArray} {e : Bool} {q z : Int} (h : path_Parse.f k s = some (a, b, c, d, e, q, z)) : b.length ≤ s.size + 1 := by
  by_cases hn : ∃ n, takesL s.data.toList n
  · obtain ⟨n, ⟨h1, _⟩ | ⟨h0, h1, _⟩⟩ := hn
    · rw [parse_null s hs k h1] at h
      simp only [nullRes, Option.some.injEq, Prod.mk.injEq] at h
      rw [← h.2.1]
      exact Nat.zero_le _
    · rw [parse_syn s hs k hk h0 h1] at h
      obtain ⟨h3, _, _⟩ := innerL_size (s.data.toList.drop 1)
      rw [List.length_drop, data_length] at h3
      obtain ⟨k, rfl⟩ : ∃ k', k = k' + 1 := ⟨k - 1, by omega⟩
      rw [path_Parse.j0, if_neg (by decide)] at h
      obtain ⟨w, _, h⟩ := Option.bind_eq_some_iff.mp h
      split at h
      · split at h
        · simp only [Option.some.injEq, Prod.mk.injEq] at h
          rw [← h.2.1]
          exact Nat.zero_le _
        · obtain ⟨w2, _, h⟩ := Option.bind_eq_some_iff.mp h
          split at h
          · simp only [Option.some.injEq, Prod.mk.injEq] at h
            rw [← h.2.1]
            exact Nat.zero_le _
          · simp only [Option.some.injEq, Prod.mk.injEq] at h
            rw [← h.2.1]
            omega
      · simp only [Option.some.injEq, Prod.mk.injEq] at h
        rw [← h.2.1]
        exact Nat.zero_le _
  · rw [parse_bad s hs k hk (fun n h => hn ⟨n, h⟩)] at h
    simp only [badRes, Option.some.injEq, Prod.mk.injEq] at h
    rw [← h.2.1]
    exact Nat.zero_le _
theorem pathFront_pure (s : ByteArray) (cut : Int) (more : ByteArray) (hc : (Lit.int .u16 cut).wf = true) (hs : s.size ≤ 1048576) (hm : more.size ≤ 1048576) : ∃ k, frankinglaw15_PathFront.f k s cut more = some true := by
  have hc0 : 0 ≤ cut ∧ cut ≤ 65535 := by
    simp [Lit.wf, IntKind.min, IntKind.max, IntKind.bits, IntKind.signed] at hc
    omega
  refine ⟨10000000, ?_⟩
  obtain ⟨K, hK⟩ : ∃ K, K = 9999999 := ⟨_, rfl⟩
  rw [show 10000000 = K + 1 from by omega]
  obtain ⟨⟨a, b, c, d, e, q, z⟩, hp⟩ := parse_some s (by omega) (K + 1) (by omega)
  unfold frankinglaw15_PathFront.f
  rw [hp]
  simp only [Option.bind_some]
  by_cases hz : z = 0
  · subst hz
    obtain ⟨n, rfl, hn⟩ := parse_ok s (by omega) (K + 1) (by omega) hp
    obtain ⟨hn2, hnl⟩ := takesL_le hn
    rw [data_length] at hnl
    rw [if_pos rfl, if_neg (by omega), decide_eq_false (by omega), frankinglaw15_PathFront.j0, if_neg (by decide), if_neg (by omega)]
    have e1 : wrap64 cut = cut := by unfold wrap64; omega
    rw [e1]
    have hm0 : 0 ≤ Int.tmod cut n := Int.tmod_nonneg _ hc0.1
    have hm1 : Int.tmod cut n < n := Int.tmod_lt_of_pos _ (by omega)
    obtain ⟨m, hm2⟩ : ∃ m : Nat, Int.tmod cut n = m := ⟨(Int.tmod cut n).toNat, by omega⟩
    rw [hm2] at hm0 hm1 ⊢
    rw [if_pos hm0, if_pos (by omega), Int.toNat_natCast, Int.toNat_natCast]
    have hd1 := extract_data s m
    have hd2 := extract_data s n
    have hz1 : (s.extract 0 m).size ≤ s.size := by rw [ByteArray.size_extract]; omega
    have hz2 : (s.extract 0 n).size ≤ s.size := by rw [ByteArray.size_extract]; omega
    have hbad : path_Parse.f K (s.extract 0 m) = some badRes := by
      refine parse_bad _ (by omega) K (by omega) ?_
      intro j hj
      rw [hd1] at hj
      exact cut_none hn (by omega) hj
    have hsz : (s.extract 0 n ++ more).size = (s.extract 0 n).size + more.size := ByteArray.size_append ..
    have hp' : path_Parse.f K s = some (a, b, c, d, e, (n : Int), 0) := by
      obtain ⟨r, hr⟩ := parse_some s (by omega) K (by omega)
      have := path_Parse.mono s K r hr
      rw [hp] at this
      rw [hr, ← this]
    have hfr : path_Parse.f K (s.extract 0 n ++ more) = some (a, b, c, d, e, (n : Int), 0) := by
      rw [← hp']
      refine parse_front s _ (by omega) (by omega) K (by omega) (by omega) hn ?_
      have : (s.extract 0 n ++ more).data.toList = s.data.toList.take n ++ more.data.toList := by
        rw [ByteArray.data_append, Array.toList_append, hd2]
      rw [this, List.take_append_of_le_length (by rw [List.length_take, data_length]; omega), List.take_take, Nat.min_self]
    rw [hbad]
    simp only [Option.bind_some, badRes]
    rw [if_pos (by omega), if_pos (by omega), if_pos (by omega), hfr]
    simp only [Option.bind_some]
    have hb := parse_route s (by omega) K (by omega) hp'
    rw [if_pos trivial, if_pos trivial, if_pos trivial, same_self a b c d e K (by omega) (by omega)]
    simp only [Option.bind_some]
    rw [if_pos trivial, awake_more K (by omega)]
    rfl
  · rw [if_neg hz, awake_more (K + 1) (by omega)]
    rfl
end Go.Proofs.YtokpnfljjjjikaaDoor.PathL
