/- CommandLong, told in plain words: what the printed function tells of any two numbers. -/
import Derived.Test.YtokpnfljjjjikaaGreatDoorQCmdx14
namespace Go.Proofs.YtokpnfljjjjikaaGreatDoor.PLong
open Go.RowKit Go.Proofs.YtokpnfljjjjikaaGreatDoor Go.Proofs.YtokpnfljjjjikaaGreatDoor.QCmd Go.Proofs.YtokpnfljjjjikaaGreatDoorW.PrintWords
set_option linter.unusedVariables false

theorem awake_true : frankinglaw16_awake.f 120 = some true := by decide +kernel

def rest (c : UInt8) (m : Nat) : ByteArray := mkText (List.replicate m c)
theorem rest_size (c : UInt8) (m : Nat) : (rest c m).size = m := by
  show (List.replicate m c).toArray.size = m
  simp
theorem text_app (l m : List UInt8) : mkText l ++ mkText m = mkText (l ++ m) := by
  apply ByteArray.ext
  rw [ByteArray.data_append]
  show l.toArray ++ m.toArray = (l ++ m).toArray
  simp
theorem text_drop (l : List UInt8) (n : Nat) : (mkText l).extract n (mkText l).size = mkText (l.drop n) := by
  apply ByteArray.ext
  rw [ByteArray.data_extract]
  show l.toArray.extract n l.toArray.size = (l.drop n).toArray
  simp
  exact List.take_of_length_le (by simp)
theorem text_size (l : List UInt8) : (mkText l).size = l.length := by
  show l.toArray.size = l.length
  simp
theorem index_at : ∀ (w r : List UInt8), (32 : UInt8) ∉ w → Lib.index (w ++ 32 :: r) [32] = (w.length : Int)
  | [], r, _ => by simp [Lib.index, List.isPrefixOf]
  | b :: w, r, h => by
    have hb : ((32 : UInt8) == b) = false := beq_eq_false_iff_ne.mpr fun e => h (by rw [e]; exact List.mem_cons_self ..)
    have ih := index_at w r (fun hm => h (List.mem_cons_of_mem _ hm))
    show (if ([32] : List UInt8).isPrefixOf (b :: (w ++ 32 :: r)) then 0 else if Lib.index (w ++ 32 :: r) [32] == -1 then -1 else Lib.index (w ++ 32 :: r) [32] + 1) = _
    rw [ih]
    have h2 : ((w.length : Int) == -1) = false := beq_eq_false_iff_ne.mpr (by omega)
    simp [List.isPrefixOf, hb, h2]
theorem at_rounds {α : Type} {f : Nat → Option α} (hm : ∀ k, LeO (f k) (f (k + 1))) {x : α} {K : Nat} : ∀ {k : Nat}, K ≤ k → f K = some x → f k = some x := by
  intro k hk h
  obtain ⟨d, rfl⟩ : ∃ d, k = K + d := ⟨k - K, by omega⟩
  induction d with
  | zero => exact h
  | succ d ih => exact hm _ _ (ih (by omega))
theorem cut_at (w r : List UInt8) (hw : (32 : UInt8) ∉ w) : Lib.cut (w ++ 32 :: r) [32] = (w, r, true) := by
  have h1 : Lib.index (w ++ 32 :: r) [32] = (w.length : Int) := index_at w r hw
  unfold Lib.cut
  rw [h1, if_pos (by omega)]
  simp
theorem cut_line (w r : List UInt8) (hw : (32 : UInt8) ∉ w) (hs : w.length + r.length < 4294967280) : strings_Cut.f (mkText (w ++ 32 :: r)) ⟨#[32]⟩ = some (mkText w, mkText r, true) := by
  unfold strings_Cut.f
  rw [if_pos (by rw [text_size]; simp; omega)]
  show some (mkText (Lib.cut (w ++ 32 :: r) [32]).1, mkText (Lib.cut (w ++ 32 :: r) [32]).2.1, (Lib.cut (w ++ 32 :: r) [32]).2.2) = _
  rw [cut_at w r hw]
theorem same15 : frankinglaw15_Same.f 3 false [] ⟨#[]⟩ ⟨#[]⟩ false false [] ⟨#[]⟩ ⟨#[]⟩ false = some true := by decide +kernel
theorem same0 (v : Int) (a b : ByteArray) (hab : a.toList = b.toList) (k : Nat) : frankinglaw16_Same.f (k + 3) v a false [] ⟨#[]⟩ ⟨#[]⟩ false [] v b false [] ⟨#[]⟩ ⟨#[]⟩ false [] = some true := by
  unfold frankinglaw16_Same.f
  rw [if_pos rfl, if_pos hab, at_rounds (fun k => frankinglaw15_Same.mono _ _ _ _ _ _ _ _ _ _ k) (show 3 ≤ k + 3 by omega) same15]
  simp [frankinglaw16_Same.j0, frankinglaw16_Same.l0]
def okB (c : UInt8) : Prop := badI (c.toNat : Int) = false
theorem parse_vrfy (k : Nat) (c : UInt8) (hc : okB c) (m : Nat) (hm : 0 < m) (h : 5 + m ≤ 510) : command_Parse.f k (mkText ([86, 82, 70, 89] ++ 32 :: List.replicate m c)) = some (7, rest c m, false, [], ⟨#[]⟩, ⟨#[]⟩, false, [], 0) := by
  unfold command_Parse.f
  rw [if_neg (by rw [text_size]; simp; omega), cut_line _ _ (by decide) (by simp; omega)]
  show ((command_great.f (mkText [86, 82, 70, 89])).bind fun g => (command_verbOf.f g).bind fun v => command_Parse.v k v (rest c m) true) = _
  rw [show command_great.f (mkText [86, 82, 70, 89]) = some (mkText [86, 82, 70, 89]) by decide +kernel]
  show ((command_verbOf.f (mkText [86, 82, 70, 89])).bind fun v => command_Parse.v k v (rest c m) true) = _
  rw [show command_verbOf.f (mkText [86, 82, 70, 89]) = some 7 by decide +kernel]
  show command_Parse.v k 7 (rest c m) true = _
  rw [show command_Parse.v k 7 (rest c m) true = command_Parse.free 7 (rest c m) from by unfold command_Parse.v; simp]
  unfold command_Parse.free
  have hs : command_said.f (rest c m) = some true := by
    unfold command_said.f
    rw [if_pos (by rw [rest_size]; omega)]
    have h1 : (rest c m).toList.isEmpty = false := by
      rw [ByteArray.toList_eq]
      show (List.replicate m c).isEmpty = false
      cases m with
      | zero => omega
      | succ m => rfl
    have h2 : (bytesOf (rest c m)).any badI = false := by
      show ((List.replicate m c).map fun b => (b.toNat : Int)).any badI = false
      rw [List.any_eq_false]
      intro x hx
      obtain ⟨b, hb, rfl⟩ := List.mem_map.mp hx
      rw [(List.mem_replicate.mp hb).2]
      unfold okB at hc
      simp [hc]
    rw [h1, h2]
    rfl
  rw [hs]
  rfl
theorem parse_bad (k : Nat) (c : UInt8) (m : Nat) (h : 5 + m ≤ 510) : command_Parse.f k (mkText ([120, 82, 70, 89] ++ 32 :: List.replicate m c)) = command_Parse.z 160 := by
  unfold command_Parse.f
  rw [if_neg (by rw [text_size]; simp; omega), cut_line _ _ (by decide) (by simp; omega)]
  show ((command_great.f (mkText [120, 82, 70, 89])).bind fun g => (command_verbOf.f g).bind fun v => command_Parse.v k v (rest c m) true) = _
  rw [show command_great.f (mkText [120, 82, 70, 89]) = some (mkText [88, 82, 70, 89]) by decide +kernel]
  show ((command_verbOf.f (mkText [88, 82, 70, 89])).bind fun v => command_Parse.v k v (rest c m) true) = _
  rw [show command_verbOf.f (mkText [88, 82, 70, 89]) = some 0 by decide +kernel]
  rfl
theorem parse_long (k : Nat) (s : ByteArray) (h : 510 < s.size) : command_Parse.f k s = command_Parse.z 3 := by
  unfold command_Parse.f
  rw [if_pos (by omega)]
theorem refused_of (k : Nat) (s : ByteArray) (e : Int) (h : command_Parse.f (k + 3) s = command_Parse.z e) : frankinglaw16_refused.f (k + 3) s e = some true := by
  unfold frankinglaw16_refused.f
  rw [h]
  show (if e = e then ((frankinglaw16_Same.f (k + 3) 0 ⟨#[]⟩ false [] ⟨#[]⟩ ⟨#[]⟩ false [] 0 ⟨#[]⟩ false [] ⟨#[]⟩ ⟨#[]⟩ false []).bind fun t => some t) else none) = _
  rw [if_pos rfl, same0 0 _ _ rfl k]
  rfl
theorem reads_of (k : Nat) (s r r2 : ByteArray) (v : Int) (hr : r.toList = r2.toList) (h : command_Parse.f (k + 3) s = some (v, r, false, [], ⟨#[]⟩, ⟨#[]⟩, false, [], 0)) : frankinglaw16_reads.f (k + 3) s v r2 false [] ⟨#[]⟩ ⟨#[]⟩ false [] = some true := by
  unfold frankinglaw16_reads.f
  rw [h]
  show (if (0 : Int) = 0 then ((frankinglaw16_Same.f (k + 3) v r false [] ⟨#[]⟩ ⟨#[]⟩ false [] v r2 false [] ⟨#[]⟩ ⟨#[]⟩ false []).bind fun t => some t) else none) = _
  rw [if_pos rfl, same0 v _ _ hr k]
  rfl
theorem repeat_one (c : UInt8) : ∀ m, Lib.repeatL [c] m = List.replicate m c
  | 0 => rfl
  | m + 1 => by
    show [c] ++ Lib.repeatL [c] m = _
    rw [repeat_one c m]
    rfl
theorem line_eq (c : UInt8) (m : Nat) : (⟨#[86, 82, 70, 89, 32]⟩ : ByteArray) ++ rest c m = mkText ([86, 82, 70, 89] ++ 32 :: List.replicate m c) := text_app [86, 82, 70, 89, 32] (List.replicate m c)
theorem bad_eq (c : UInt8) (m : Nat) : (⟨#[120]⟩ : ByteArray) ++ mkText ([82, 70, 89] ++ 32 :: List.replicate m c) = mkText ([120, 82, 70, 89] ++ 32 :: List.replicate m c) := text_app [120] ([82, 70, 89] ++ 32 :: List.replicate m c)
theorem long_pure (a0 a1 : Int) (h0 : 0 ≤ a0 ∧ a0 ≤ 255) (h1 : 0 ≤ a1 ∧ a1 ≤ 255) : ∃ k, frankinglaw16_CommandLong.f k a0 a1 = some true := by
  obtain ⟨q, hq, hq2⟩ : ∃ q : Nat, Int.tmod a0 30 = (q : Int) ∧ q < 30 := ⟨(Int.tmod a0 30).toNat, by have := Int.tmod_nonneg 30 h0.1; omega, by have := Int.tmod_lt_of_pos a0 (show (0 : Int) < 30 by decide); omega⟩
  obtain ⟨b, hb, hb2⟩ : ∃ b : Nat, Int.tmod a1 95 = (b : Int) ∧ b < 95 := ⟨(Int.tmod a1 95).toNat, by have := Int.tmod_nonneg 95 h1.1; omega, by have := Int.tmod_lt_of_pos a1 (show (0 : Int) < 95 by decide); omega⟩
  refine ⟨117 + 3, ?_⟩
  have hw : wrap64 (500 + wrap64 (Int.tmod a0 30)) = 500 + (q : Int) := by rw [hq]; unfold wrap64; omega
  have hw2 : wrap64 (500 + (q : Int) - 5) = ((495 + q : Nat) : Int) := by unfold wrap64; omega
  have hbyte : (32 + Int.tmod a1 95) % 256 = ((32 + b : Nat) : Int) := by rw [hb]; omega
  obtain ⟨c, hc⟩ : ∃ c : UInt8, c = UInt8.ofNat (32 + b) := ⟨_, rfl⟩
  have hcn : c.toNat = 32 + b := by rw [hc, UInt8.toNat_ofNat']; omega
  have hok : okB c := by
    unfold okB badI
    rw [hcn, decide_eq_false (by omega), decide_eq_false (by omega)]
    rfl
  unfold frankinglaw16_CommandLong.f
  rw [hw, hw2, hbyte]
  have hrep : strings_Repeat.f (strOfNums [((32 + b : Nat) : Int)]) ((495 + q : Nat) : Int) = some (rest c (495 + q)) := by
    unfold strings_Repeat.f
    have e1 : strOfNums [((32 + b : Nat) : Int)] = mkText [c] := by rw [hc]; rfl
    rw [e1, if_pos ⟨by omega, by omega, by rw [text_size]; simp; omega⟩]
    show some (mkText (Lib.repeatL [c] (((495 + q : Nat) : Int)).toNat)) = _
    rw [repeat_one]
    rfl
  rw [hrep]
  simp only [Option.bind_some]
  rw [if_pos (by rw [rest_size]; omega), line_eq]
  have hz1 : (1 : Int) ≤ ((mkText ([86, 82, 70, 89] ++ 32 :: List.replicate (495 + q) c)).size : Int) := by rw [text_size]; simp; omega
  have hz5 : (5 : Int) ≤ ((mkText ([86, 82, 70, 89] ++ 32 :: List.replicate (495 + q) c)).size : Int) := by rw [text_size]; simp; omega
  have hx1 : (mkText ([86, 82, 70, 89] ++ 32 :: List.replicate (495 + q) c)).extract 1 (mkText ([86, 82, 70, 89] ++ 32 :: List.replicate (495 + q) c)).size = mkText ([82, 70, 89] ++ 32 :: List.replicate (495 + q) c) := text_drop _ 1
  have hx5 : (mkText ([86, 82, 70, 89] ++ 32 :: List.replicate (495 + q) c)).extract 5 (mkText ([86, 82, 70, 89] ++ 32 :: List.replicate (495 + q) c)).size = rest c (495 + q) := text_drop _ 5
  have hs1 : 1 + (mkText ([82, 70, 89] ++ 32 :: List.replicate (495 + q) c)).size ≤ 9223372036854775807 := by rw [text_size]; simp; omega
  rw [hx1, hx5, bad_eq]
  have haw : frankinglaw16_awake.f (117 + 3) = some true := awake_true
  by_cases hl : 500 + (q : Int) > 510
  · rw [if_pos hl, refused_of 117 _ 3 (parse_long _ _ (by rw [text_size]; simp; omega))]
    simp only [Option.bind_some]
    rw [if_pos trivial, if_pos hz1, if_pos hs1, refused_of 117 _ 3 (parse_long _ _ (by rw [text_size]; simp; omega))]
    simp only [Option.bind_some]
    rw [if_pos trivial, haw]
    rfl
  · rw [if_neg hl, if_pos hz5, reads_of 117 _ _ _ 7 rfl (parse_vrfy _ c hok (495 + q) (by omega) (by omega))]
    simp only [Option.bind_some]
    rw [if_pos trivial, if_pos hz1, if_pos hs1, refused_of 117 _ 160 (parse_bad _ c (495 + q) (by omega))]
    simp only [Option.bind_some]
    rw [if_pos trivial, haw]
    rfl
end Go.Proofs.YtokpnfljjjjikaaGreatDoor.PLong
