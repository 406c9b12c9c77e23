/- command.turn, command.said, command.verbOf: contracts; what is asked of the words' variable. -/
import Derived.Test.YtokpnfljjjjikaaGreatDoorProg
import Derived.Test.YtokpnfljjjjikaaGreatDoorEBytes
import Derived.Test.YtokpnfljjjjikaaGreatDoorEStr
import Derived.Lib.Hide
namespace Go.Proofs.YtokpnfljjjjikaaGreatDoor
open Go.RowKit Go.Proofs.YtokpnfljjjjikaaGreatDoorW.PrintWords Go.Proofs.YtokpnfljjjjikaaGreatDoorW.PrintMore

def turnI (a b d c : Int) : Int := if a ≤ c ∧ c ≤ b then wrap64 (c + d) % 256 else c
def command_turn.g (s : ByteArray) (a b d : Int) : ByteArray := strOfNums ((bytesOf s).map (turnI a b d))
def command_turn.f (s : ByteArray) (a b d : Int) : Option ByteArray := if s.size ≤ 9223372036854775807 then some (command_turn.g s a b d) else none

set_option maxRecDepth 100000 in
set_option maxHeartbeats 1000000 in
theorem command_turn.calls (s : ByteArray) (a b d : Int) (r : ByteArray) (w : World) (h : command_turn.f s a b d = some r) :
    Calls Tryz.prog 140 #[.string s, .int .u8 a, .int .u8 b, .int .i64 d] w fun e w' => e = .returned (.string r) ∧ Below w.heap.size w w' := by
  unfold command_turn.f at h
  by_cases hs : s.size ≤ 9223372036854775807
  case neg => rw [if_neg hs] at h; cases h
  rw [if_pos hs] at h
  obtain rfl := Option.some.inj h
  clear h
  unfold command_turn.g
  obtain ⟨f, hfd⟩ : ∃ f, f = turnI a b d := ⟨_, rfl⟩
  rw [← hfd]
  have HF := Lib.hid hfd
  clear hfd
  have kc := fun W => Lib.run_convert_string_bytes (P := Tryz.prog) W 9 23 5 s Tryz.underlying9 Tryz.underlying23 Tryz.underlying5
  have kd := fun (W : World) (c : Nat) (h : ReadsInt W .u8 (some ⟨w.heap.size, 0, none⟩) s.size ((bytesOf s).map f)) => string_of_reads (P := Tryz.prog) (c := c) Tryz.underlying23 Tryz.underlying5 Tryz.underlying9 h
  have hl := bytesOf_length s
  have HL := Lib.hid hl
  clear hl
  go_enter Tryz.func140, Tryz.ntmps140
  go_wp2
  have HR0 := Lib.hid (BRow.made w 5 s)
  have HB0 := Lib.hid (bytes_below (Below.refl w.heap.size w) (Nat.le_refl _) 5 s)
  go_loopw [16] (fun v wr => ∃ k : Nat, k ≤ s.size ∧ v = .int .i64 k ∧ Hid (BRow wr w.heap.size (mapTo f (bytesOf s) k)) ∧ Hid (Below w.heap.size w wr)) (fun v _ => s.size - (intOf v).toNat)
  case atStart => exact ⟨0, Nat.zero_le _, rfl, Lib.hid (by rw [mapTo_zero]; exact HR0.out), HB0⟩
  case round =>
    obtain ⟨k, hk, rfl, HR, HB⟩ := hrel
    by_cases hlt : k < s.size
    · have hr := HR.out k (by rw [mapTo_length, HL.out]; exact hlt)
      rw [mapTo_at _ _ _ (by rw [HL.out]; exact hlt)] at hr
      obtain ⟨b0, b1⟩ := bytesOf_range s k
      have HS := Lib.hid (mapTo_succ f (bytesOf s) k (by rw [HL.out]; exact hlt))
      have HK := Lib.hid (mapTo_keep f (bytesOf s) k (by rw [HL.out]; exact hlt))
      have HW := Lib.hid (fun x => HR.out.set k (by rw [mapTo_length, HL.out]; exact hlt) x)
      have HC := Lib.hid hr
      clear hr
      generalize (bytesOf s).getD k 0 = c at HC HS HK b0 b1
      obtain ⟨hc, hf⟩ := HC.out
      have HT := Lib.hid (show f c = turnI a b d c by rw [HF.out])
      by_cases h1 : a ≤ c
      · by_cases h2 : c ≤ b
        · have HV := Lib.hid (show f c = wrap64 (c + d) % 256 by rw [HT.out]; unfold turnI; rw [if_pos ⟨h1, h2⟩])
          go_wp2
          go_roundw
          case rel => exact ⟨k + 1, by omega, by go_num, Lib.hid (by rw [HS.out, HV.out]; exact HW.out _), Lib.hid (HB.out.setCell (Nat.le_refl _) _)⟩
          case measure => simp [intOf]; omega
        · go_wp2
          go_roundw
          case rel => exact ⟨k + 1, by omega, by go_num, Lib.hid (by rw [HK.out (by rw [HT.out]; unfold turnI; rw [if_neg (by omega)])]; exact HR.out), HB⟩
          case measure => simp [intOf]; omega
      · go_wp2
        go_roundw
        case rel => exact ⟨k + 1, by omega, by go_num, Lib.hid (by rw [HK.out (by rw [HT.out]; unfold turnI; rw [if_neg (by omega)])]; exact HR.out), HB⟩
        case measure => simp [intOf]; omega
    · have hkd := fun c => kd wr c (by
        have := HR.out
        rw [mapTo_all _ _ _ (by rw [HL.out]; omega)] at this
        have h3 := this.reads (by rw [List.length_map, HL.out]; exact hs)
        rw [List.length_map, HL.out] at h3
        exact h3)
      clear kd
      go_wp2
      go_ret
      exact ⟨rfl, HB.out⟩

def badI (c : Int) : Bool := decide (c < 32) || decide (126 < c)
def command_said.f (s : ByteArray) : Option Bool := if s.size ≤ 9223372036854775807 then some (!s.toList.isEmpty && !(bytesOf s).any badI) else none
theorem said_1 (c : Int) (w : World) : Calls Tryz.prog 143 #[.int .u8 c] w fun e w' => e = .returned (.bool (badI c)) ∧ w' = w := by
  by_cases h1 : c < 32
  · go_enter Tryz.func143, Tryz.ntmps143
    go_wp2
    go_ret
    exact ⟨by simp [badI, h1], rfl⟩
  · by_cases h2 : 126 < c
    · go_enter Tryz.func143, Tryz.ntmps143
      go_wp2
      go_ret
      exact ⟨by simp [badI, h2], rfl⟩
    · go_enter Tryz.func143, Tryz.ntmps143
      go_wp2
      go_ret
      exact ⟨by simp [badI, h1, h2], rfl⟩
theorem anyI_upto (xs : List Int) (k : Nat) (hk : k < xs.length) (h : (xs.take k).any badI = false) : (xs.take (k + 1)).any badI = badI (xs.getD k 0) := by
  have e : xs.take (k + 1) = xs.take k ++ [xs[k]] := List.take_succ_eq_append_getElem hk
  rw [e, List.any_append, h, List.getD_eq_getElem?_getD, List.getElem?_eq_getElem hk]
  simp
set_option maxRecDepth 100000 in
set_option maxHeartbeats 1000000 in
theorem said_index (xs : List Int) (g c : Nat) (w : World) (hR : BRow w g xs) (hn : xs.length ≤ 9223372036854775807) :
    Calls Tryz.prog 176 #[.slice (some ⟨g, 0, none⟩) xs.length c, .func (.func 143) #[] #[]] w fun e w' => (∃ r : Int, e = .returned (.int .i64 r) ∧ decide (0 ≤ r) = xs.any badI) ∧ Below w.heap.size w w' := by
  have HR := Lib.hid hR
  clear hR
  go_enter Tryz.func176, Tryz.ntmps176
  go_wp2
  go_loopw [8] (fun i wr => ∃ k : Nat, k ≤ xs.length ∧ i = .int .i64 k ∧ Hid ((xs.take k).any badI = false) ∧ Hid (Below w.heap.size w wr) ∧ Hid (BRow wr g xs)) (fun i _ => xs.length - (intOf i).toNat)
  case atStart => exact ⟨0, Nat.zero_le _, rfl, Lib.hid (by simp), Lib.hid (Below.refl _ _), HR⟩
  case round =>
    clear HR
    obtain ⟨k, hk, rfl, HP, HB, HR⟩ := hrel
    by_cases hlt : k < xs.length
    · obtain ⟨hc1, hf1⟩ := HR.out k hlt
      have HT := Lib.hid (anyI_upto xs k hlt HP.out)
      have HM := Lib.hid (fun hb : badI (xs.getD k 0) = true => (show xs.any badI = true from List.any_eq_true.mpr ⟨xs.getD k 0, by rw [List.getD_eq_getElem?_getD, List.getElem?_eq_getElem hlt]; exact List.getElem_mem hlt, hb⟩))
      generalize xs.getD k 0 = x at hc1 HT HM
      have HC := Lib.hid (said_1 x)
      cases hb : badI x with
      | true =>
        rw [hb] at HC
        go_wp2_with (go_at_call 143; refine (HC.out _).mono ?_; rintro e w1 ⟨rfl, rfl⟩)
        go_ret
        exact ⟨⟨_, rfl, by rw [HM.out hb]; simp⟩, HB.out⟩
      | false =>
        rw [hb] at HC
        go_wp2_with (go_at_call 143; refine (HC.out _).mono ?_; rintro e w1 ⟨rfl, rfl⟩)
        go_roundw
        case rel => exact ⟨k + 1, by omega, by go_num, Lib.hid (by rw [HT.out, hb]), HB, HR⟩
        case measure => simp [intOf]; omega
    · have HZ := Lib.hid (show xs.any badI = false by rw [← List.take_of_length_le (l := xs) (i := k) (by omega)]; exact HP.out)
      go_wp2
      go_ret
      exact ⟨⟨_, rfl, by rw [HZ.out]; rfl⟩, HB.out⟩
set_option maxRecDepth 100000 in
set_option maxHeartbeats 1000000 in
theorem command_said.calls (s : ByteArray) (r : Bool) (w : World) (h : command_said.f s = some r) :
    Calls Tryz.prog 97 #[.string s] w fun e w' => e = .returned (.bool r) ∧ Below w.heap.size w w' := by
  unfold command_said.f at h
  by_cases hs : s.size ≤ 9223372036854775807
  case neg => rw [if_neg hs] at h; cases h
  rw [if_pos hs] at h
  obtain rfl := Option.some.inj h
  clear h
  by_cases h0 : s = ⟨#[]⟩
  · subst h0
    clear hs
    go_enter Tryz.func97, Tryz.ntmps97
    go_wp2
    go_ret
    exact ⟨by rw [show (⟨#[]⟩ : ByteArray).toList = [] from ByteArray.toList_eq ..]; rfl, Below.refl _ _⟩
  · have hne : s.toList.isEmpty = false := by
      rw [List.isEmpty_eq_false_iff]; intro h
      rw [ByteArray.toList_eq] at h
      exact h0 (by obtain ⟨⟨l⟩⟩ := s; simp at h; rw [h])
    have HNE := Lib.hid hne
    rw [hne]
    clear hne
    have kc := fun W => Lib.run_convert_string_bytes (P := Tryz.prog) W 9 23 5 s Tryz.underlying9 Tryz.underlying23 Tryz.underlying5
    have hl := bytesOf_length s
    have HC := Lib.hid (fun (c : Nat) => said_index (bytesOf s) w.heap.size c (Lib.bytesWorld w 5 s) (BRow.made w 5 s) (by rw [hl]; exact hs))
    rw [hl] at HC
    have HB0 := Lib.hid (bytes_below (Below.refl w.heap.size w) (Nat.le_refl _) 5 s)
    clear hl hs
    generalize hb : (bytesOf s).any badI = b at HC
    clear hb
    go_enter Tryz.func97, Tryz.ntmps97
    go_wp2_with (first | (go_at_call 142; go_in) | (go_at_call 176; refine (HC.out _).mono ?_; rintro e w1 ⟨⟨r, rfl, hr⟩, hb1⟩; have HRR := Lib.hid hr; have HB1 := Lib.hid hb1; clear hr hb1))
    · rename_i h1
      exact absurd HNE.out (by rw [h1]; decide)
    · go_ret
      exact ⟨by rw [← HRR.out, ← HNE.out]; rfl, below_weaken HB0.out HB0.out.size HB1.out⟩
def voL (s : ByteArray) : List ByteArray → Nat → Int
  | [], _ => 0
  | x :: xs, i => if 0 < i ∧ x = s then (i : Int) else voL s xs (i + 1)
def command_verbOf.f (s : ByteArray) : Option Int := some (voL s wordsL 0)
set_option maxRecDepth 100000 in
set_option maxHeartbeats 1000000 in
theorem command_verbOf.calls (s : ByteArray) (r : Int) (w : World) (hG : GlobalsOK w) (h : command_verbOf.f s = some r) :
    Calls Tryz.prog 92 #[.string s] w fun e w' => e = .returned (.int .u8 r) ∧ Below w.heap.size w w' := by
  obtain ⟨b, o, c, hw, hx⟩ := hG.words
  have HR := Lib.hid (Option.some.inj h)
  have HX := Lib.hid hx
  have HL := Lib.hid (show wordsL.length = 12 from rfl)
  clear hG h hx
  go_enter Tryz.func92, Tryz.ntmps92
  go_wp2
  go_loopw [7] (fun i wr => ∃ k : Nat, k ≤ 12 ∧ i = .int .i64 k ∧ Hid (voL s (wordsL.drop k) k = r) ∧ wr = w) (fun i _ => 12 - (intOf i).toNat)
  case atStart => exact ⟨0, Nat.zero_le _, rfl, HR, rfl⟩
  case round =>
    obtain ⟨k, hk, rfl, HP, rfl⟩ := hrel
    by_cases hlt : k < 12
    · obtain ⟨x, hx⟩ : ∃ x, wordsL[k]? = some x := ⟨wordsL[k]'(by rw [HL.out]; exact hlt), List.getElem?_eq_getElem _⟩
      have hc := HX.out k x hx
      have HD := Lib.hid (show (if 0 < k ∧ x = s then (k : Int) else voL s (wordsL.drop (k + 1)) (k + 1)) = r by
        have h1 : wordsL.drop k = x :: wordsL.drop (k + 1) := by
          have h2 : k < wordsL.length := by rw [HL.out]; exact hlt
          rw [List.drop_eq_getElem_cons h2]
          rw [List.getElem?_eq_getElem h2] at hx
          rw [Option.some.inj hx]
        have h3 := HP.out
        rw [h1] at h3
        exact h3)
      clear hx
      by_cases h0 : 0 < k
      · by_cases he : x = s
        · have HV := Lib.hid (show (k : Int) = r by rw [← HD.out, if_pos ⟨h0, he⟩])
          clear HD HP
          subst he
          go_wp2
          go_ret
          exact ⟨by rw [← HV.out]; go_num, Below.refl _ _⟩
        · have HV := Lib.hid (show voL s (wordsL.drop (k + 1)) (k + 1) = r by rw [← HD.out, if_neg (fun h => he h.2)])
          have hee : (x.toList == s.toList) = false := by
            rw [beq_eq_false_iff_ne, ByteArray.toList_eq, ByteArray.toList_eq]
            intro h
            exact he (by obtain ⟨⟨l⟩⟩ := x; obtain ⟨⟨l2⟩⟩ := s; simp at h; rw [h])
          clear HD HP
          go_wp2
          go_roundw
          case rel => exact ⟨k + 1, by omega, by go_num, HV, by trivial⟩
          case measure => simp [intOf]; omega
      · have HV := Lib.hid (show voL s (wordsL.drop (k + 1)) (k + 1) = r by rw [← HD.out, if_neg (fun h => h0 h.1)])
        clear HD HP
        go_wp2
        go_roundw
        case rel => exact ⟨k + 1, by omega, by go_num, HV, by trivial⟩
        case measure => simp [intOf]; omega
    · have HV := Lib.hid (show (0 : Int) = r by
        have h3 := HP.out
        rw [List.drop_of_length_le (by rw [HL.out]; omega)] at h3
        exact h3)
      go_wp2
      go_ret
      exact ⟨by rw [← HV.out]; rfl, Below.refl _ _⟩
end Go.Proofs.YtokpnfljjjjikaaGreatDoor
