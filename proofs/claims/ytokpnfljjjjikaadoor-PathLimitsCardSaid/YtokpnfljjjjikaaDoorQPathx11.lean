-- WRITTEN BY A PROGRAM of this session (wip/myprint), out of the translation; Lean checks it.
import Derived.Test.YtokpnfljjjjikaaDoorQPathx0
import Derived.Test.YtokpnfljjjjikaaDoorQPathx7
import Derived.Test.YtokpnfljjjjikaaDoorQPathx9
import Derived.Test.YtokpnfljjjjikaaDoorQPathx10
import Derived.Test.YtokpnfljjjjikaaDoorEStr
import Derived.Test.YtokpnfljjjjikaaDoorWRepsOne
namespace Go.Proofs.YtokpnfljjjjikaaDoor.QPath
open Go.RowKit Go.Proofs.YtokpnfljjjjikaaDoorW.PrintWords Go.Proofs.YtokpnfljjjjikaaDoorW.PrintLast Go.Proofs.YtokpnfljjjjikaaDoorW.PrintMore
theorem min2_mn (k k' : IntKind) (x y : Int) : Builtin.min2 (.int k x) (.int k' y) = pure (.int k (mn x y)) := min2_int k k' x y
theorem max2_mx (k k' : IntKind) (x y : Int) : Builtin.max2 (.int k x) (.int k' y) = pure (.int k (mx x y)) := max2_int k k' x y
attribute [local go_sem] max2_mx min2_mn max_two min_two   -- for this text's walks alone
set_option linter.unusedVariables false
set_option linter.unusedSimpArgs false

/-! ### frankinglaw15_PathLimits: function 4 -/
mutual
def frankinglaw15_PathLimits.j0 : Nat → Int → ByteArray → ByteArray → Option (Bool)
  | 0, _, _, _ => none
  | k + 1, x5, x6, x7 => if x7.size + 2 ≤ 9223372036854775807 then ((path_Mailbox.f k (x7 ++ (⟨#[64, 98]⟩ : ByteArray))).bind fun bt280 => (if ((bt280.2.2.2 == 0) != (x5 == 0)) = true then (frankinglaw15_PathLimits.j1 k x5 true) else (if bt280.2.2.2 = 0 then (if x5 = 0 then (frankinglaw15_PathLimits.j1 k x5 (bt280.1.toList != x6.toList)) else (frankinglaw15_PathLimits.j1 k x5 false)) else (if bt280.2.2.2 = 3 then (if x5 = 0 then (frankinglaw15_PathLimits.j1 k x5 (bt280.1.toList != x6.toList)) else (frankinglaw15_PathLimits.j1 k x5 false)) else (frankinglaw15_PathLimits.j1 k x5 true))))) else (none)
def frankinglaw15_PathLimits.j1 : Nat → Int → Bool → Option (Bool)
  | 0, _, _ => none
  | k + 1, x5, x62 => if x62 = true then (none) else ((strings_Repeat.f (⟨#[98]⟩ : ByteArray) 63).bind fun t285 => ((strings_Repeat.f (⟨#[98]⟩ : ByteArray) x5).bind fun t286 => (if t285.size + t286.size ≤ 9223372036854775807 then ((path_Domain.f k (t285 ++ t286)).bind fun t287 => (if (t287 != (x5 == 0)) = true then (none) else (if t285.size + 1 ≤ 9223372036854775807 then (if (t285 ++ (⟨#[46]⟩ : ByteArray)).size + t285.size ≤ 9223372036854775807 then (if ((t285 ++ (⟨#[46]⟩ : ByteArray)) ++ t285).size + 1 ≤ 9223372036854775807 then (if (((t285 ++ (⟨#[46]⟩ : ByteArray)) ++ t285) ++ (⟨#[46]⟩ : ByteArray)).size + t285.size ≤ 9223372036854775807 then (if ((((t285 ++ (⟨#[46]⟩ : ByteArray)) ++ t285) ++ (⟨#[46]⟩ : ByteArray)) ++ t285).size + 1 ≤ 9223372036854775807 then (if (((((t285 ++ (⟨#[46]⟩ : ByteArray)) ++ t285) ++ (⟨#[46]⟩ : ByteArray)) ++ t285) ++ (⟨#[46]⟩ : ByteArray)).size + t285.size ≤ 9223372036854775807 then ((strings_Repeat.f (⟨#[46]⟩ : ByteArray) (mn x5 1)).bind fun t288 => (if ((((((t285 ++ (⟨#[46]⟩ : ByteArray)) ++ t285) ++ (⟨#[46]⟩ : ByteArray)) ++ t285) ++ (⟨#[46]⟩ : ByteArray)) ++ t285).size + t288.size ≤ 9223372036854775807 then ((strings_Repeat.f (⟨#[99]⟩ : ByteArray) (mx (wrap64 (x5 - 1)) 0)).bind fun t289 => (if (((((((t285 ++ (⟨#[46]⟩ : ByteArray)) ++ t285) ++ (⟨#[46]⟩ : ByteArray)) ++ t285) ++ (⟨#[46]⟩ : ByteArray)) ++ t285) ++ t288).size + t289.size ≤ 9223372036854775807 then (if 2 + ((((((((t285 ++ (⟨#[46]⟩ : ByteArray)) ++ t285) ++ (⟨#[46]⟩ : ByteArray)) ++ t285) ++ (⟨#[46]⟩ : ByteArray)) ++ t285) ++ t288) ++ t289).size ≤ 9223372036854775807 then ((path_Mailbox.f k ((⟨#[97, 64]⟩ : ByteArray) ++ ((((((((t285 ++ (⟨#[46]⟩ : ByteArray)) ++ t285) ++ (⟨#[46]⟩ : ByteArray)) ++ t285) ++ (⟨#[46]⟩ : ByteArray)) ++ t285) ++ t288) ++ t289))).bind fun bt290 => ((some (([0, 150, 3, 3] : List Int) : List Int)).bind fun y295 => (if 0 ≤ x5 then (if x5 < (y295.length : Int) then (if bt290.2.2.2 = (rd y295 x5) then ((path_Domain.f k ((((((((t285 ++ (⟨#[46]⟩ : ByteArray)) ++ t285) ++ (⟨#[46]⟩ : ByteArray)) ++ t285) ++ (⟨#[46]⟩ : ByteArray)) ++ t285) ++ t288) ++ t289)).bind fun t299 => (frankinglaw15_PathLimits.j2 k x5 (t299 != (x5 == 0)))) else (frankinglaw15_PathLimits.j2 k x5 true)) else (none)) else (none)))) else (none)) else (none))) else (none))) else (none)) else (none)) else (none)) else (none)) else (none)) else (none)))) else (none))))
def frankinglaw15_PathLimits.j2 : Nat → Int → Bool → Option (Bool)
  | 0, _, _ => none
  | k + 1, x5, x110 => if x110 = true then (none) else ((strings_Repeat.f (⟨#[44, 64, 120]⟩ : ByteArray) (wrap64 (19 + x5))).bind fun t300 => (if 3 + t300.size ≤ 9223372036854775807 then (if ((⟨#[60, 64, 120]⟩ : ByteArray) ++ t300).size + 5 ≤ 9223372036854775807 then ((path_Parse.f k (((⟨#[60, 64, 120]⟩ : ByteArray) ++ t300) ++ (⟨#[58, 97, 64, 98, 62]⟩ : ByteArray))).bind fun bt301 => (if ((bt301.2.2.2.2.2.2 == 0) == (x5 == 0)) = true then (if bt301.2.2.2.2.2.2 = 0 then (if (bt301.2.1.length : Int) = 20 then ((frankinglaw15_awake.f k).bind fun t311 => (some t311)) else (if bt301.2.2.2.2.2.2 = 3 then ((frankinglaw15_awake.f k).bind fun t312 => (some t312)) else (some false))) else (if bt301.2.2.2.2.2.2 = 3 then ((frankinglaw15_awake.f k).bind fun t313 => (some t313)) else (some false))) else (some false))) else (none)) else (none)))
end
def frankinglaw15_PathLimits.f (k : Nat) (a0 : Int) (a1 : Bool) : Option (Bool) := (strings_Repeat.f (⟨#[97]⟩ : ByteArray) (wrap64 (64 + (wrap64 (Int.tmod a0 4))))).bind fun t277 => (if a1 = true then ((strings_Repeat.f (⟨#[34]⟩ : ByteArray) (wrap64 (64 + (wrap64 (Int.tmod a0 4))))).bind fun t278 => ((strings_Repeat.f (⟨#[92, 34]⟩ : ByteArray) (wrap64 (64 + (wrap64 (Int.tmod a0 4))))).bind fun t279 => (if 1 + t279.size ≤ 9223372036854775807 then (if ((⟨#[34]⟩ : ByteArray) ++ t279).size + 1 ≤ 9223372036854775807 then (frankinglaw15_PathLimits.j0 k (wrap64 (Int.tmod a0 4)) t278 (((⟨#[34]⟩ : ByteArray) ++ t279) ++ (⟨#[34]⟩ : ByteArray))) else (none)) else (none)))) else (frankinglaw15_PathLimits.j0 k (wrap64 (Int.tmod a0 4)) t277 t277))
theorem frankinglaw15_PathLimits.mono_l : ∀ k, (∀ y0 y1 y2, LeO (frankinglaw15_PathLimits.j0 k y0 y1 y2) (frankinglaw15_PathLimits.j0 (k + 1) y0 y1 y2)) ∧ (∀ y0 y1, LeO (frankinglaw15_PathLimits.j1 k y0 y1) (frankinglaw15_PathLimits.j1 (k + 1) y0 y1)) ∧ (∀ y0 y1, LeO (frankinglaw15_PathLimits.j2 k y0 y1) (frankinglaw15_PathLimits.j2 (k + 1) y0 y1))
  | 0 => ⟨fun _ _ _ r h => by simp [frankinglaw15_PathLimits.j0] at h, fun _ _ r h => by simp [frankinglaw15_PathLimits.j1] at h, fun _ _ r h => by simp [frankinglaw15_PathLimits.j2] at h⟩
  | k + 1 => by
    obtain ⟨ih0, ih1, ih2⟩ := frankinglaw15_PathLimits.mono_l k
    refine ⟨?_, ?_, ?_⟩
    · intro y0 y1 y2
      unfold frankinglaw15_PathLimits.j0
      repeat' first
      | (with_reducible exact ih0 _ _ _)
      | (with_reducible exact ih1 _ _)
      | (with_reducible exact ih2 _ _)
      | (with_reducible exact frankinglaw15_awake.mono _)
      | (with_reducible exact path_Domain.mono _ _)
      | (with_reducible exact path_Mailbox.mono _ _)
      | (with_reducible exact path_Parse.mono _ _)
      | (with_reducible exact LeO.refl _)
      | (with_reducible exact LeO.none _)
      | (with_reducible refine LeO.ite ?_ ?_)
      | (with_reducible refine LeO.bind ?_ (fun _ => ?_))
      | exact ih0 _ _ _
      | exact ih1 _ _
      | exact ih2 _ _
      | exact frankinglaw15_awake.mono _
      | exact path_Domain.mono _ _
      | exact path_Mailbox.mono _ _
      | exact path_Parse.mono _ _
      | exact LeO.none _
      | refine LeO.ite ?_ ?_
      | refine LeO.bind ?_ (fun _ => ?_)
    · intro y0 y1
      unfold frankinglaw15_PathLimits.j1
      repeat' first
      | (with_reducible exact ih0 _ _ _)
      | (with_reducible exact ih1 _ _)
      | (with_reducible exact ih2 _ _)
      | (with_reducible exact frankinglaw15_awake.mono _)
      | (with_reducible exact path_Domain.mono _ _)
      | (with_reducible exact path_Mailbox.mono _ _)
      | (with_reducible exact path_Parse.mono _ _)
      | (with_reducible exact LeO.refl _)
      | (with_reducible exact LeO.none _)
      | (with_reducible refine LeO.ite ?_ ?_)
      | (with_reducible refine LeO.bind ?_ (fun _ => ?_))
      | exact ih0 _ _ _
      | exact ih1 _ _
      | exact ih2 _ _
      | exact frankinglaw15_awake.mono _
      | exact path_Domain.mono _ _
      | exact path_Mailbox.mono _ _
      | exact path_Parse.mono _ _
      | exact LeO.none _
      | refine LeO.ite ?_ ?_
      | refine LeO.bind ?_ (fun _ => ?_)
    · intro y0 y1
      unfold frankinglaw15_PathLimits.j2
      repeat' first
      | (with_reducible exact ih0 _ _ _)
      | (with_reducible exact ih1 _ _)
      | (with_reducible exact ih2 _ _)
      | (with_reducible exact frankinglaw15_awake.mono _)
      | (with_reducible exact path_Domain.mono _ _)
      | (with_reducible exact path_Mailbox.mono _ _)
      | (with_reducible exact path_Parse.mono _ _)
      | (with_reducible exact LeO.refl _)
      | (with_reducible exact LeO.none _)
      | (with_reducible refine LeO.ite ?_ ?_)
      | (with_reducible refine LeO.bind ?_ (fun _ => ?_))
      | exact ih0 _ _ _
      | exact ih1 _ _
      | exact ih2 _ _
      | exact frankinglaw15_awake.mono _
      | exact path_Domain.mono _ _
      | exact path_Mailbox.mono _ _
      | exact path_Parse.mono _ _
      | exact LeO.none _
      | refine LeO.ite ?_ ?_
      | refine LeO.bind ?_ (fun _ => ?_)
theorem frankinglaw15_PathLimits.mono : ∀ a0 a1 k, LeO (frankinglaw15_PathLimits.f k a0 a1) (frankinglaw15_PathLimits.f (k + 1) a0 a1) := by
  intro a0 a1 k
  obtain ⟨ih0, ih1, ih2⟩ := frankinglaw15_PathLimits.mono_l k
  unfold frankinglaw15_PathLimits.f
  repeat' first
      | (with_reducible exact ih0 _ _ _)
      | (with_reducible exact ih1 _ _)
      | (with_reducible exact ih2 _ _)
      | (with_reducible exact frankinglaw15_awake.mono _)
      | (with_reducible exact path_Domain.mono _ _)
      | (with_reducible exact path_Mailbox.mono _ _)
      | (with_reducible exact path_Parse.mono _ _)
      | (with_reducible exact LeO.refl _)
      | (with_reducible exact LeO.none _)
      | (with_reducible refine LeO.ite ?_ ?_)
      | (with_reducible refine LeO.bind ?_ (fun _ => ?_))
      | exact ih0 _ _ _
      | exact ih1 _ _
      | exact ih2 _ _
      | exact frankinglaw15_awake.mono _
      | exact path_Domain.mono _ _
      | exact path_Mailbox.mono _ _
      | exact path_Parse.mono _ _
      | exact LeO.none _
      | refine LeO.ite ?_ ?_
      | refine LeO.bind ?_ (fun _ => ?_)
set_option maxHeartbeats 8000000 in
set_option maxRecDepth 100000 in
theorem frankinglaw15_PathLimits.calls (k : Nat) (a0 : Int) (a1 : Bool) (r : Bool) (w : World) (hG : GlobalsOK w) (h : frankinglaw15_PathLimits.f k a0 a1 = some r) :
    Calls Tryd.prog 4 #[.int .u8 a0, .bool a1] w fun e w' => e = .returned (.bool r) ∧ Below w.heap.size w w' := by
  have hu25 := Tryd.underlying25
  have hu27 := Tryd.underlying27
  have HB := Aside0.mk (Below.refl w.heap.size w)
  have HG := Aside0.mk hG
  clear hG
  have H : ((strings_Repeat.f (⟨#[97]⟩ : ByteArray) (wrap64 (64 + (wrap64 (Int.tmod a0 4))))).bind fun t277 => (if a1 = true then ((strings_Repeat.f (⟨#[34]⟩ : ByteArray) (wrap64 (64 + (wrap64 (Int.tmod a0 4))))).bind fun t278 => ((strings_Repeat.f (⟨#[92, 34]⟩ : ByteArray) (wrap64 (64 + (wrap64 (Int.tmod a0 4))))).bind fun t279 => (if 1 + t279.size ≤ 9223372036854775807 then (if ((⟨#[34]⟩ : ByteArray) ++ t279).size + 1 ≤ 9223372036854775807 then (frankinglaw15_PathLimits.j0 k (wrap64 (Int.tmod a0 4)) t278 (((⟨#[34]⟩ : ByteArray) ++ t279) ++ (⟨#[34]⟩ : ByteArray))) else (none)) else (none)))) else (frankinglaw15_PathLimits.j0 k (wrap64 (Int.tmod a0 4)) t277 t277))) = some r := h
  clear h
  replace H := Option.bind_eq_some_iff.mp H
  obtain ⟨t277, A30, H⟩ := H
  replace H : (if a1 = true then ((strings_Repeat.f (⟨#[34]⟩ : ByteArray) (wrap64 (64 + (wrap64 (Int.tmod a0 4))))).bind fun t278 => ((strings_Repeat.f (⟨#[92, 34]⟩ : ByteArray) (wrap64 (64 + (wrap64 (Int.tmod a0 4))))).bind fun t279 => (if 1 + t279.size ≤ 9223372036854775807 then (if ((⟨#[34]⟩ : ByteArray) ++ t279).size + 1 ≤ 9223372036854775807 then (frankinglaw15_PathLimits.j0 k (wrap64 (Int.tmod a0 4)) t278 (((⟨#[34]⟩ : ByteArray) ++ t279) ++ (⟨#[34]⟩ : ByteArray))) else (none)) else (none)))) else (frankinglaw15_PathLimits.j0 k (wrap64 (Int.tmod a0 4)) t277 t277)) = some r := H
  have A3 := Aside0.mk A30
  clear A30
  have HC4 := Aside0.mk H
  clear H
  go_enter Tryd.func4, Tryd.ntmps4
  go_upto_if 25 with (first | ((with_reducible refine gate_callee (f := 8) rfl ?_); refine goesL_ (some 23) rfl rfl Tryd.func8 (by kernel_rfl) rfl #[.string (⟨#[97]⟩ : ByteArray), .int .i64 (wrap64 (64 + (wrap64 (Int.tmod a0 4))))] rfl (by (try simp only [List.map_toArray, List.map_cons, List.map_nil]); first | done | rfl | (simp only [List.length_drop, List.length_take]; rfl)) ?_; (with_reducible refine (strings_Repeat.calls (⟨#[97]⟩ : ByteArray) (wrap64 (64 + (wrap64 (Int.tmod a0 4)))) t277 _ A3.out).mono ?_); rintro e w5 ⟨rfl, hb⟩; refine ⟨_, rfl, ?_⟩; have n0_ := Aside0.mk (below_step (by repeat (first | (with_reducible first | exact HB.out | apply below_alloc | apply pw_below_drewN | apply below_drew1) | exact HB.out)) hb); clear HB; have HB := n0_; clear n0_; (try clear hb); (try clear hb2); (try clear hk); (try clear hi)))
  (try simp only [Act.put, List.setIfInBounds_toArray, List.set_cons_zero, List.set_cons_succ])
  go_cut [6, 7] (fun v6 v7 wc => ∃ (kq : Nat) (x6_3 : ByteArray) (x7_3 : ByteArray), v6 = .string x6_3 ∧ v7 = .string x7_3 ∧ Aside0 (frankinglaw15_PathLimits.j0 kq (wrap64 (Int.tmod a0 4)) x6_3 x7_3 = some r) ∧ Aside0 (kq ≤ k) ∧ Aside0 (Below w.heap.size w wc))
  case first =>
    have H := HC4.out
    clear HC4
    by_cases c6 : a1 = true
    · subst c6
      have H1 : ((strings_Repeat.f (⟨#[34]⟩ : ByteArray) (wrap64 (64 + (wrap64 (Int.tmod a0 4))))).bind fun t278 => ((strings_Repeat.f (⟨#[92, 34]⟩ : ByteArray) (wrap64 (64 + (wrap64 (Int.tmod a0 4))))).bind fun t279 => (if 1 + t279.size ≤ 9223372036854775807 then (if ((⟨#[34]⟩ : ByteArray) ++ t279).size + 1 ≤ 9223372036854775807 then (frankinglaw15_PathLimits.j0 k (wrap64 (Int.tmod a0 4)) t278 (((⟨#[34]⟩ : ByteArray) ++ t279) ++ (⟨#[34]⟩ : ByteArray))) else (none)) else (none)))) = some r := by rw [if_pos rfl] at H; exact H
      clear H
      have H := H1
      clear H1
      replace H := Option.bind_eq_some_iff.mp H
      obtain ⟨t278, A70, H⟩ := H
      replace H : ((strings_Repeat.f (⟨#[92, 34]⟩ : ByteArray) (wrap64 (64 + (wrap64 (Int.tmod a0 4))))).bind fun t279 => (if 1 + t279.size ≤ 9223372036854775807 then (if ((⟨#[34]⟩ : ByteArray) ++ t279).size + 1 ≤ 9223372036854775807 then (frankinglaw15_PathLimits.j0 k (wrap64 (Int.tmod a0 4)) t278 (((⟨#[34]⟩ : ByteArray) ++ t279) ++ (⟨#[34]⟩ : ByteArray))) else (none)) else (none))) = some r := H
      have A7 := Aside0.mk A70
      clear A70
      replace H := Option.bind_eq_some_iff.mp H
      obtain ⟨t279, A80, H⟩ := H
      replace H : (if 1 + t279.size ≤ 9223372036854775807 then (if ((⟨#[34]⟩ : ByteArray) ++ t279).size + 1 ≤ 9223372036854775807 then (frankinglaw15_PathLimits.j0 k (wrap64 (Int.tmod a0 4)) t278 (((⟨#[34]⟩ : ByteArray) ++ t279) ++ (⟨#[34]⟩ : ByteArray))) else (none)) else (none)) = some r := H
      have A8 := Aside0.mk A80
      clear A80
      by_cases c9 : 1 + t279.size ≤ 9223372036854775807
      · rw [if_pos c9] at H
        have c9b0 := eq_true c9
        have c9b1 : decide (1 + t279.size ≤ 9223372036854775807) = true := decide_eq_true c9
        try have c9b2 : (9223372036854775807 < 1 + t279.size) = False := eq_false (Nat.not_lt.2 c9)
        by_cases c10 : ((⟨#[34]⟩ : ByteArray) ++ t279).size + 1 ≤ 9223372036854775807
        · rw [if_pos c10] at H
          have c10b0 := eq_true c10
          have c10b1 : decide (((⟨#[34]⟩ : ByteArray) ++ t279).size + 1 ≤ 9223372036854775807) = true := decide_eq_true c10
          try have c10b2 : (9223372036854775807 < ((⟨#[34]⟩ : ByteArray) ++ t279).size + 1) = False := eq_false (Nat.not_lt.2 c10)
          try (have c10b3 := c10b2; simp only [ByteArray.size_append] at c10b3)
          try have c10b4 : (9223372036854775807 < (1 + t279.size) + 1) = False := c10b3
          have H' := Aside0.mk H
          clear H
          go_wp2_with (first | ((with_reducible refine gate_callee (f := 8) rfl ?_); refine goesL_ (some 28) rfl rfl Tryd.func8 (by kernel_rfl) rfl #[.string (⟨#[34]⟩ : ByteArray), .int .i64 (wrap64 (64 + (wrap64 (Int.tmod a0 4))))] rfl (by (try simp only [List.map_toArray, List.map_cons, List.map_nil]); first | done | rfl | (simp only [List.length_drop, List.length_take]; rfl)) ?_; (with_reducible refine (strings_Repeat.calls (⟨#[34]⟩ : ByteArray) (wrap64 (64 + (wrap64 (Int.tmod a0 4)))) t278 _ A7.out).mono ?_); rintro e w11 ⟨rfl, hb⟩; refine ⟨_, rfl, ?_⟩; have n0_ := Aside0.mk (below_step (by repeat (first | (with_reducible first | exact HB.out | apply below_alloc | apply pw_below_drewN | apply below_drew1) | exact HB.out)) hb); clear HB; have HB := n0_; clear n0_; (try clear hb); (try clear hb2); (try clear hk); (try clear hi)) | ((with_reducible refine gate_callee (f := 8) rfl ?_); refine goesL_ (some 31) rfl rfl Tryd.func8 (by kernel_rfl) rfl #[.string (⟨#[92, 34]⟩ : ByteArray), .int .i64 (wrap64 (64 + (wrap64 (Int.tmod a0 4))))] rfl (by (try simp only [List.map_toArray, List.map_cons, List.map_nil]); first | done | rfl | (simp only [List.length_drop, List.length_take]; rfl)) ?_; (with_reducible refine (strings_Repeat.calls (⟨#[92, 34]⟩ : ByteArray) (wrap64 (64 + (wrap64 (Int.tmod a0 4)))) t279 _ A8.out).mono ?_); rintro e w12 ⟨rfl, hb⟩; refine ⟨_, rfl, ?_⟩; have n0_ := Aside0.mk (below_step (by repeat (first | (with_reducible first | exact HB.out | apply below_alloc | apply pw_below_drewN | apply below_drew1) | exact HB.out)) hb); clear HB; have HB := n0_; clear n0_; (try clear hb); (try clear hb2); (try clear hk); (try clear hi)))
          go_meet
          case rel => exact ⟨_, (t278), (((⟨#[34]⟩ : ByteArray) ++ t279) ++ (⟨#[34]⟩ : ByteArray)), (by first | rfl | (simp; done) | (simp [*]; done) | (exfalso; simp_all; done)), (by first | rfl | (simp; done) | (simp [*]; done) | (exfalso; simp_all; done)), H', ⟨by first | omega | exact Nat.le_refl _⟩, ⟨by repeat (first | (with_reducible first | exact HB.out | apply below_alloc | apply pw_below_drewN | apply below_drew1) | exact HB.out)⟩⟩
        · rw [if_neg c10] at H
          exact absurd H (by simp)
      · rw [if_neg c9] at H
        exact absurd H (by simp)
    · replace c6 := Bool.eq_false_iff.mpr c6
      subst c6
      have H1 : (frankinglaw15_PathLimits.j0 k (wrap64 (Int.tmod a0 4)) t277 t277) = some r := by rw [if_neg (show ¬ (false = true) by decide)] at H; exact H
      clear H
      have H := H1
      clear H1
      have H' := Aside0.mk H
      clear H
      go_wp2
      go_meet
      case rel => exact ⟨_, (t277), (t277), (by first | rfl | (simp; done) | (simp [*]; done) | (exfalso; simp_all; done)), (by first | rfl | (simp; done) | (simp [*]; done) | (exfalso; simp_all; done)), H', ⟨by first | omega | exact Nat.le_refl _⟩, ⟨by repeat (first | (with_reducible first | exact HB.out | apply below_alloc | apply pw_below_drewN | apply below_drew1) | exact HB.out)⟩⟩
  case rest =>
    clear HC4
    try clear c1
    try clear p2
    try clear c4
    try clear c6
    try clear p6
    try clear c8
    try clear c9
    try clear c9b0
    try clear c9b1
    try clear c9b2
    try clear c10
    try clear c10b0
    try clear c10b1
    try clear c10b2
    obtain ⟨kq, x6_3, x7_3, rfl, rfl, HA, HJ3, HB⟩ := hcut
    cases kq with
    | zero => exact absurd HA.out (by simp [frankinglaw15_PathLimits.j0])
    | succ kj3 =>
      have H := HA.out
      clear HA
      simp only [frankinglaw15_PathLimits.j0] at H
      by_cases c13 : x7_3.size + 2 ≤ 9223372036854775807
      · rw [if_pos c13] at H
        have c13b0 := eq_true c13
        have c13b1 : decide (x7_3.size + 2 ≤ 9223372036854775807) = true := decide_eq_true c13
        try have c13b2 : (9223372036854775807 < x7_3.size + 2) = False := eq_false (Nat.not_lt.2 c13)
        replace H := Option.bind_eq_some_iff.mp H
        obtain ⟨⟨t280, t281, t282, t283⟩, A140, H⟩ := H
        replace H : (if ((t283 == 0) != ((wrap64 (Int.tmod a0 4)) == 0)) = true then (frankinglaw15_PathLimits.j1 kj3 (wrap64 (Int.tmod a0 4)) true) else (if t283 = 0 then (if (wrap64 (Int.tmod a0 4)) = 0 then (frankinglaw15_PathLimits.j1 kj3 (wrap64 (Int.tmod a0 4)) (t280.toList != x6_3.toList)) else (frankinglaw15_PathLimits.j1 kj3 (wrap64 (Int.tmod a0 4)) false)) else (if t283 = 3 then (if (wrap64 (Int.tmod a0 4)) = 0 then (frankinglaw15_PathLimits.j1 kj3 (wrap64 (Int.tmod a0 4)) (t280.toList != x6_3.toList)) else (frankinglaw15_PathLimits.j1 kj3 (wrap64 (Int.tmod a0 4)) false)) else (frankinglaw15_PathLimits.j1 kj3 (wrap64 (Int.tmod a0 4)) true)))) = some r := H
        have A14 := Aside0.mk A140
        clear A140
        have HC15 := Aside0.mk H
        clear H
        go_upto_region 7 with (first | ((with_reducible refine gate_callee (f := 9) rfl ?_); refine goesL_ (some 37) rfl rfl Tryd.func9 (by kernel_rfl) rfl #[.string (x7_3 ++ (⟨#[64, 98]⟩ : ByteArray))] rfl (by (try simp only [List.map_toArray, List.map_cons, List.map_nil]); first | done | rfl | (simp only [List.length_drop, List.length_take]; rfl)) ?_; (with_reducible refine (path_Mailbox.calls kj3 (x7_3 ++ (⟨#[64, 98]⟩ : ByteArray)) t280 t281 t282 t283 _ ?side1 A14.out).mono ?_); (case side1 => exact GlobalsOK.below HG.out (by repeat (first | (with_reducible first | exact HB.out | apply below_alloc | apply pw_below_drewN | apply below_drew1) | exact HB.out))); rintro e w16 ⟨rfl, hb⟩; refine ⟨_, rfl, ?_⟩; have n0_ := Aside0.mk (below_step (by repeat (first | (with_reducible first | exact HB.out | apply below_alloc | apply pw_below_drewN | apply below_drew1) | exact HB.out)) hb); clear HB; have HB := n0_; clear n0_; (try clear hb); (try clear hb2); (try clear hk); (try clear hi)) | ((with_reducible refine gate_dst (N := 8) rfl ?_); (try (refine gate_guard (by rfl) ?_; dsimp only)); refine box_event ?hg (N := 8) ?hd (cs := #[.string (⟨#[]⟩ : ByteArray), .string (⟨#[]⟩ : ByteArray), .bool false]) (t := 25) ?hr ?_; (case hd => rfl); (case hg => rfl); (case hr => first | (go_simp; done) | (go_simp; rfl)); intro gb284 hg w17 hbox hb; have n0_ := Aside0.mk (below_step (by repeat (first | (with_reducible first | exact HB.out | apply below_alloc | apply pw_below_drewN | apply below_drew1) | exact HB.out)) hb); have n1_ := Aside0.mk (hbox); have n2_ := Aside0.mk ((by rw [hg]; exact (below_size (by repeat (first | (with_reducible first | exact HB.out | apply below_alloc | apply pw_below_drewN | apply below_drew1) | exact HB.out))) : w.heap.size ≤ gb284)); have n3_ := Aside0.mk ((by rw [hg]; exact (below_size (by repeat (first | (with_reducible first | exact HB.out | apply below_alloc | apply pw_below_drewN | apply below_drew1) | exact HB.out))) : w.heap.size ≤ gb284)); clear HB; have HB := n0_; have BK284 := n1_; have GW284 := n2_; have GE284 := n3_; clear n0_ n1_ n2_ n3_; clear hb hbox hg; have hcz18_0 : w17.cell? ⟨gb284, 0, none⟩ = some (.string (⟨#[]⟩ : ByteArray)) := (blk_cell BK284.out 0).trans rfl; have hcz18_1 : w17.cell? ⟨gb284, 1, none⟩ = some (.string (⟨#[]⟩ : ByteArray)) := (blk_cell BK284.out 1).trans rfl; have hcz18_2 : w17.cell? ⟨gb284, 2, none⟩ = some (.bool false) := (blk_cell BK284.out 2).trans rfl; have hfz18_0 := blk_frozen BK284.out 0; have hfz18_1 := blk_frozen BK284.out 1; have hfz18_2 := blk_frozen BK284.out 2))
        (try simp only [Act.put, List.setIfInBounds_toArray, List.set_cons_zero, List.set_cons_succ])
        go_cut [62] (fun v62 wc => ∃ (kq : Nat) (x62_14 : Bool), v62 = .bool x62_14 ∧ Aside0 (frankinglaw15_PathLimits.j1 kq (wrap64 (Int.tmod a0 4)) x62_14 = some r) ∧ Aside0 (kq ≤ kj3) ∧ Aside0 (wc.heap[gb284]? = some (.cells #[.string t280, .string t281, .bool t282] 25 (0, 0))) ∧ Aside0 (Below w.heap.size w wc))
        case first =>
          have H := HC15.out
          clear HC15
          by_cases c19 : ((t283 == 0) != ((wrap64 (Int.tmod a0 4)) == 0)) = true
          · rw [if_pos c19] at H
            have c19b0 : ((t283 == 0) != ((wrap64 (Int.tmod a0 4)) == 0)) = true := c19
            (try (have c19b1 : decide ((t283 == 0) = ((wrap64 (Int.tmod a0 4)) == 0)) = false := by simpa using c19))
            (try (have c19b2 : ((t283 == 0) == ((wrap64 (Int.tmod a0 4)) == 0)) = false := by simpa using c19))
            (try (have c19b3 : ¬ ((t283 == 0) = ((wrap64 (Int.tmod a0 4)) == 0)) := by simpa using c19))
            clear c19
            (first | rw [c19b0] | (simp only [i64_w, i32_w]; rw [c19b0]) | skip)
            have H' := Aside0.mk H
            clear H
            go_wp2
            go_meet
            case rel => exact ⟨_, (true), (by first | rfl | (simp; done) | (simp [*]; done) | (exfalso; simp_all; done)), H', ⟨by have := HJ3.out; first | omega | exact Nat.le_refl _⟩, ⟨by (with_reducible repeat (first | refine blk_drewN ?_ _ | refine blk_drew ?_ | refine blk_alloc ?_ _)); refine blk_put (cs := #[.string t280, .string t281, .bool false]) ?_ 2 _ rfl; (with_reducible repeat (first | refine blk_drewN ?_ _ | refine blk_drew ?_ | refine blk_alloc ?_ _)); refine blk_put (cs := #[.string t280, .string (⟨#[]⟩ : ByteArray), .bool false]) ?_ 1 _ rfl; (with_reducible repeat (first | refine blk_drewN ?_ _ | refine blk_drew ?_ | refine blk_alloc ?_ _)); refine blk_put (cs := #[.string (⟨#[]⟩ : ByteArray), .string (⟨#[]⟩ : ByteArray), .bool false]) ?_ 0 _ rfl; (with_reducible repeat (first | refine blk_drewN ?_ _ | refine blk_drew ?_ | refine blk_alloc ?_ _)); exact BK284.out⟩, ⟨by repeat (first | (with_reducible first | exact HB.out | apply below_alloc | apply pw_below_drewN | apply below_drew1 | refine below_set ?_ GE284.out) | exact HB.out)⟩⟩
          · rw [if_neg c19] at H
            have c19b0 : ((t283 == 0) != ((wrap64 (Int.tmod a0 4)) == 0)) = false := by simpa using c19
            (try (have c19b1 : decide ((t283 == 0) = ((wrap64 (Int.tmod a0 4)) == 0)) = true := by simpa using c19))
            (try (have c19b2 : ((t283 == 0) == ((wrap64 (Int.tmod a0 4)) == 0)) = true := by simpa using c19))
            clear c19
            (first | rw [c19b0] | (simp only [i64_w, i32_w]; rw [c19b0]) | skip)
            by_cases c20 : t283 = 0
            · rw [if_pos c20] at H
              have c20b0 : (t283 == 0) = true := beq_iff_eq.mpr c20
              have c20b1 : (t283 != 0) = false := bne_eq_false_iff_eq.mpr c20
              clear c20
              by_cases c21 : (wrap64 (Int.tmod a0 4)) = 0
              · rw [if_pos c21] at H
                have c21b0 : ((wrap64 (Int.tmod a0 4)) == 0) = true := beq_iff_eq.mpr c21
                have c21b1 : ((wrap64 (Int.tmod a0 4)) != 0) = false := bne_eq_false_iff_eq.mpr c21
                clear c21
                have H' := Aside0.mk H
                clear H
                have hcz22_0 : w17.cell? ⟨gb284, 0, none⟩ = some (.string (⟨#[]⟩ : ByteArray)) := (blk_cell BK284.out 0).trans rfl
                have hcz22_1 : w17.cell? ⟨gb284, 1, none⟩ = some (.string (⟨#[]⟩ : ByteArray)) := (blk_cell BK284.out 1).trans rfl
                have hcz22_2 : w17.cell? ⟨gb284, 2, none⟩ = some (.bool false) := (blk_cell BK284.out 2).trans rfl
                have hfz22_0 := blk_frozen BK284.out 0
                have hfz22_1 := blk_frozen BK284.out 1
                have hfz22_2 := blk_frozen BK284.out 2
                go_wp2
                go_meet
                case rel => exact ⟨_, ((t280.toList != x6_3.toList)), (by first | rfl | (simp; done) | (simp [*]; done) | (exfalso; simp_all; done)), H', ⟨by have := HJ3.out; first | omega | exact Nat.le_refl _⟩, ⟨by (with_reducible repeat (first | refine blk_drewN ?_ _ | refine blk_drew ?_ | refine blk_alloc ?_ _)); refine blk_put (cs := #[.string t280, .string t281, .bool false]) ?_ 2 _ rfl; (with_reducible repeat (first | refine blk_drewN ?_ _ | refine blk_drew ?_ | refine blk_alloc ?_ _)); refine blk_put (cs := #[.string t280, .string (⟨#[]⟩ : ByteArray), .bool false]) ?_ 1 _ rfl; (with_reducible repeat (first | refine blk_drewN ?_ _ | refine blk_drew ?_ | refine blk_alloc ?_ _)); refine blk_put (cs := #[.string (⟨#[]⟩ : ByteArray), .string (⟨#[]⟩ : ByteArray), .bool false]) ?_ 0 _ rfl; (with_reducible repeat (first | refine blk_drewN ?_ _ | refine blk_drew ?_ | refine blk_alloc ?_ _)); exact BK284.out⟩, ⟨by repeat (first | (with_reducible first | exact HB.out | apply below_alloc | apply pw_below_drewN | apply below_drew1 | refine below_set ?_ GE284.out) | exact HB.out)⟩⟩
              · rw [if_neg c21] at H
                have c21b0 : ((wrap64 (Int.tmod a0 4)) == 0) = false := beq_eq_false_iff_ne.mpr c21
                have c21b1 : ((wrap64 (Int.tmod a0 4)) != 0) = true := bne_iff_ne.mpr c21
                have H' := Aside0.mk H
                clear H
                go_wp2
                go_meet
                case rel => exact ⟨_, (false), (by first | rfl | (simp; done) | (simp [*]; done) | (exfalso; simp_all; done)), H', ⟨by have := HJ3.out; first | omega | exact Nat.le_refl _⟩, ⟨by (with_reducible repeat (first | refine blk_drewN ?_ _ | refine blk_drew ?_ | refine blk_alloc ?_ _)); refine blk_put (cs := #[.string t280, .string t281, .bool false]) ?_ 2 _ rfl; (with_reducible repeat (first | refine blk_drewN ?_ _ | refine blk_drew ?_ | refine blk_alloc ?_ _)); refine blk_put (cs := #[.string t280, .string (⟨#[]⟩ : ByteArray), .bool false]) ?_ 1 _ rfl; (with_reducible repeat (first | refine blk_drewN ?_ _ | refine blk_drew ?_ | refine blk_alloc ?_ _)); refine blk_put (cs := #[.string (⟨#[]⟩ : ByteArray), .string (⟨#[]⟩ : ByteArray), .bool false]) ?_ 0 _ rfl; (with_reducible repeat (first | refine blk_drewN ?_ _ | refine blk_drew ?_ | refine blk_alloc ?_ _)); exact BK284.out⟩, ⟨by repeat (first | (with_reducible first | exact HB.out | apply below_alloc | apply pw_below_drewN | apply below_drew1 | refine below_set ?_ GE284.out) | exact HB.out)⟩⟩
            · rw [if_neg c20] at H
              have c20b0 : (t283 == 0) = false := beq_eq_false_iff_ne.mpr c20
              have c20b1 : (t283 != 0) = true := bne_iff_ne.mpr c20
              by_cases c23 : t283 = 3
              · rw [if_pos c23] at H
                have c23b0 : (t283 == 3) = true := beq_iff_eq.mpr c23
                have c23b1 : (t283 != 3) = false := bne_eq_false_iff_eq.mpr c23
                clear c23
                by_cases c24 : (wrap64 (Int.tmod a0 4)) = 0
                · rw [if_pos c24] at H
                  have c24b0 : ((wrap64 (Int.tmod a0 4)) == 0) = true := beq_iff_eq.mpr c24
                  have c24b1 : ((wrap64 (Int.tmod a0 4)) != 0) = false := bne_eq_false_iff_eq.mpr c24
                  clear c24
                  have H' := Aside0.mk H
                  clear H
                  have hcz25_0 : w17.cell? ⟨gb284, 0, none⟩ = some (.string (⟨#[]⟩ : ByteArray)) := (blk_cell BK284.out 0).trans rfl
                  have hcz25_1 : w17.cell? ⟨gb284, 1, none⟩ = some (.string (⟨#[]⟩ : ByteArray)) := (blk_cell BK284.out 1).trans rfl
                  have hcz25_2 : w17.cell? ⟨gb284, 2, none⟩ = some (.bool false) := (blk_cell BK284.out 2).trans rfl
                  have hfz25_0 := blk_frozen BK284.out 0
                  have hfz25_1 := blk_frozen BK284.out 1
                  have hfz25_2 := blk_frozen BK284.out 2
                  go_wp2
                  go_meet
                  case rel => exact ⟨_, ((t280.toList != x6_3.toList)), (by first | rfl | (simp; done) | (simp [*]; done) | (exfalso; simp_all; done)), H', ⟨by have := HJ3.out; first | omega | exact Nat.le_refl _⟩, ⟨by (with_reducible repeat (first | refine blk_drewN ?_ _ | refine blk_drew ?_ | refine blk_alloc ?_ _)); refine blk_put (cs := #[.string t280, .string t281, .bool false]) ?_ 2 _ rfl; (with_reducible repeat (first | refine blk_drewN ?_ _ | refine blk_drew ?_ | refine blk_alloc ?_ _)); refine blk_put (cs := #[.string t280, .string (⟨#[]⟩ : ByteArray), .bool false]) ?_ 1 _ rfl; (with_reducible repeat (first | refine blk_drewN ?_ _ | refine blk_drew ?_ | refine blk_alloc ?_ _)); refine blk_put (cs := #[.string (⟨#[]⟩ : ByteArray), .string (⟨#[]⟩ : ByteArray), .bool false]) ?_ 0 _ rfl; (with_reducible repeat (first | refine blk_drewN ?_ _ | refine blk_drew ?_ | refine blk_alloc ?_ _)); exact BK284.out⟩, ⟨by repeat (first | (with_reducible first | exact HB.out | apply below_alloc | apply pw_below_drewN | apply below_drew1 | refine below_set ?_ GE284.out) | exact HB.out)⟩⟩
                · rw [if_neg c24] at H
                  have c24b0 : ((wrap64 (Int.tmod a0 4)) == 0) = false := beq_eq_false_iff_ne.mpr c24
                  have c24b1 : ((wrap64 (Int.tmod a0 4)) != 0) = true := bne_iff_ne.mpr c24
                  have H' := Aside0.mk H
                  clear H
                  go_wp2
                  go_meet
                  case rel => exact ⟨_, (false), (by first | rfl | (simp; done) | (simp [*]; done) | (exfalso; simp_all; done)), H', ⟨by have := HJ3.out; first | omega | exact Nat.le_refl _⟩, ⟨by (with_reducible repeat (first | refine blk_drewN ?_ _ | refine blk_drew ?_ | refine blk_alloc ?_ _)); refine blk_put (cs := #[.string t280, .string t281, .bool false]) ?_ 2 _ rfl; (with_reducible repeat (first | refine blk_drewN ?_ _ | refine blk_drew ?_ | refine blk_alloc ?_ _)); refine blk_put (cs := #[.string t280, .string (⟨#[]⟩ : ByteArray), .bool false]) ?_ 1 _ rfl; (with_reducible repeat (first | refine blk_drewN ?_ _ | refine blk_drew ?_ | refine blk_alloc ?_ _)); refine blk_put (cs := #[.string (⟨#[]⟩ : ByteArray), .string (⟨#[]⟩ : ByteArray), .bool false]) ?_ 0 _ rfl; (with_reducible repeat (first | refine blk_drewN ?_ _ | refine blk_drew ?_ | refine blk_alloc ?_ _)); exact BK284.out⟩, ⟨by repeat (first | (with_reducible first | exact HB.out | apply below_alloc | apply pw_below_drewN | apply below_drew1 | refine below_set ?_ GE284.out) | exact HB.out)⟩⟩
              · rw [if_neg c23] at H
                have c23b0 : (t283 == 3) = false := beq_eq_false_iff_ne.mpr c23
                have c23b1 : (t283 != 3) = true := bne_iff_ne.mpr c23
                have H' := Aside0.mk H
                clear H
                by_cases cz : (wrap64 (Int.tmod a0 4)) = 0
                · have czb0 : ((wrap64 (Int.tmod a0 4)) == 0) = true := beq_iff_eq.mpr cz
                  have czb1 : ((wrap64 (Int.tmod a0 4)) != 0) = false := bne_eq_false_iff_eq.mpr cz
                  clear cz
                  go_wp2
                  go_meet
                  case rel => exact ⟨_, (true), (by first | rfl | (simp; done) | (simp [*]; done) | (exfalso; simp_all; done)), H', ⟨by have := HJ3.out; first | omega | exact Nat.le_refl _⟩, ⟨by (with_reducible repeat (first | refine blk_drewN ?_ _ | refine blk_drew ?_ | refine blk_alloc ?_ _)); refine blk_put (cs := #[.string t280, .string t281, .bool false]) ?_ 2 _ rfl; (with_reducible repeat (first | refine blk_drewN ?_ _ | refine blk_drew ?_ | refine blk_alloc ?_ _)); refine blk_put (cs := #[.string t280, .string (⟨#[]⟩ : ByteArray), .bool false]) ?_ 1 _ rfl; (with_reducible repeat (first | refine blk_drewN ?_ _ | refine blk_drew ?_ | refine blk_alloc ?_ _)); refine blk_put (cs := #[.string (⟨#[]⟩ : ByteArray), .string (⟨#[]⟩ : ByteArray), .bool false]) ?_ 0 _ rfl; (with_reducible repeat (first | refine blk_drewN ?_ _ | refine blk_drew ?_ | refine blk_alloc ?_ _)); exact BK284.out⟩, ⟨by repeat (first | (with_reducible first | exact HB.out | apply below_alloc | apply pw_below_drewN | apply below_drew1 | refine below_set ?_ GE284.out) | exact HB.out)⟩⟩
                · have czb0 : ((wrap64 (Int.tmod a0 4)) == 0) = false := beq_eq_false_iff_ne.mpr cz
                  have czb1 : ((wrap64 (Int.tmod a0 4)) != 0) = true := bne_iff_ne.mpr cz
                  go_wp2
                  go_meet
                  case rel => exact ⟨_, (true), (by first | rfl | (simp; done) | (simp [*]; done) | (exfalso; simp_all; done)), H', ⟨by have := HJ3.out; first | omega | exact Nat.le_refl _⟩, ⟨by (with_reducible repeat (first | refine blk_drewN ?_ _ | refine blk_drew ?_ | refine blk_alloc ?_ _)); refine blk_put (cs := #[.string t280, .string t281, .bool false]) ?_ 2 _ rfl; (with_reducible repeat (first | refine blk_drewN ?_ _ | refine blk_drew ?_ | refine blk_alloc ?_ _)); refine blk_put (cs := #[.string t280, .string (⟨#[]⟩ : ByteArray), .bool false]) ?_ 1 _ rfl; (with_reducible repeat (first | refine blk_drewN ?_ _ | refine blk_drew ?_ | refine blk_alloc ?_ _)); refine blk_put (cs := #[.string (⟨#[]⟩ : ByteArray), .string (⟨#[]⟩ : ByteArray), .bool false]) ?_ 0 _ rfl; (with_reducible repeat (first | refine blk_drewN ?_ _ | refine blk_drew ?_ | refine blk_alloc ?_ _)); exact BK284.out⟩, ⟨by repeat (first | (with_reducible first | exact HB.out | apply below_alloc | apply pw_below_drewN | apply below_drew1 | refine below_set ?_ GE284.out) | exact HB.out)⟩⟩
        case rest =>
          clear HC15
          try clear c1
          try clear c2
          try clear p2
          try clear c4
          try clear c6
          try clear p6
          try clear c8
          try clear c9
          try clear c9b0
          try clear c9b1
          try clear c9b2
          try clear c10
          try clear c10b0
          try clear c10b1
          try clear c10b2
          try clear c13
          try clear c13b0
          try clear c13b1
          try clear c13b2
          try clear c19
          try clear c19b0
          try clear c19b1
          try clear c19b2
          try clear c20
          try clear c20b0
          try clear c20b1
          try clear c21
          try clear c21b0
          try clear c21b1
          try clear c23
          try clear c23b0
          try clear c23b1
          try clear c24
          try clear c24b0
          try clear c24b1
          try clear hcz18_0
          try clear hcz18_1
          try clear hcz18_2
          try clear hcz22_0
          try clear hcz22_1
          try clear hcz22_2
          try clear hcz25_0
          try clear hcz25_1
          try clear hcz25_2
          try clear hfz18_0
          try clear hfz18_1
          try clear hfz18_2
          try clear hfz22_0
          try clear hfz22_1
          try clear hfz22_2
          try clear hfz25_0
          try clear hfz25_1
          try clear hfz25_2
          try clear p2
          try clear p6
          obtain ⟨kq, x62_14, rfl, HA, HJ14, BK284, HB⟩ := hcut
          cases kq with
          | zero => exact absurd HA.out (by simp [frankinglaw15_PathLimits.j1])
          | succ kj14 =>
            have H := HA.out
            clear HA
            simp only [frankinglaw15_PathLimits.j1] at H
            by_cases c26 : x62_14 = true
            · subst c26
              have H1 : (none) = some r := by rw [if_pos rfl] at H; exact H
              clear H
              have H := H1
              clear H1
              exact absurd H (by simp)
            · replace c26 := Bool.eq_false_iff.mpr c26
              subst c26
              have H1 : ((strings_Repeat.f (⟨#[98]⟩ : ByteArray) 63).bind fun t285 => ((strings_Repeat.f (⟨#[98]⟩ : ByteArray) (wrap64 (Int.tmod a0 4))).bind fun t286 => (if t285.size + t286.size ≤ 9223372036854775807 then ((path_Domain.f kj14 (t285 ++ t286)).bind fun t287 => (if (t287 != ((wrap64 (Int.tmod a0 4)) == 0)) = true then (none) else (if t285.size + 1 ≤ 9223372036854775807 then (if (t285 ++ (⟨#[46]⟩ : ByteArray)).size + t285.size ≤ 9223372036854775807 then (if ((t285 ++ (⟨#[46]⟩ : ByteArray)) ++ t285).size + 1 ≤ 9223372036854775807 then (if (((t285 ++ (⟨#[46]⟩ : ByteArray)) ++ t285) ++ (⟨#[46]⟩ : ByteArray)).size + t285.size ≤ 9223372036854775807 then (if ((((t285 ++ (⟨#[46]⟩ : ByteArray)) ++ t285) ++ (⟨#[46]⟩ : ByteArray)) ++ t285).size + 1 ≤ 9223372036854775807 then (if (((((t285 ++ (⟨#[46]⟩ : ByteArray)) ++ t285) ++ (⟨#[46]⟩ : ByteArray)) ++ t285) ++ (⟨#[46]⟩ : ByteArray)).size + t285.size ≤ 9223372036854775807 then ((strings_Repeat.f (⟨#[46]⟩ : ByteArray) (mn (wrap64 (Int.tmod a0 4)) 1)).bind fun t288 => (if ((((((t285 ++ (⟨#[46]⟩ : ByteArray)) ++ t285) ++ (⟨#[46]⟩ : ByteArray)) ++ t285) ++ (⟨#[46]⟩ : ByteArray)) ++ t285).size + t288.size ≤ 9223372036854775807 then ((strings_Repeat.f (⟨#[99]⟩ : ByteArray) (mx (wrap64 ((wrap64 (Int.tmod a0 4)) - 1)) 0)).bind fun t289 => (if (((((((t285 ++ (⟨#[46]⟩ : ByteArray)) ++ t285) ++ (⟨#[46]⟩ : ByteArray)) ++ t285) ++ (⟨#[46]⟩ : ByteArray)) ++ t285) ++ t288).size + t289.size ≤ 9223372036854775807 then (if 2 + ((((((((t285 ++ (⟨#[46]⟩ : ByteArray)) ++ t285) ++ (⟨#[46]⟩ : ByteArray)) ++ t285) ++ (⟨#[46]⟩ : ByteArray)) ++ t285) ++ t288) ++ t289).size ≤ 9223372036854775807 then ((path_Mailbox.f kj14 ((⟨#[97, 64]⟩ : ByteArray) ++ ((((((((t285 ++ (⟨#[46]⟩ : ByteArray)) ++ t285) ++ (⟨#[46]⟩ : ByteArray)) ++ t285) ++ (⟨#[46]⟩ : ByteArray)) ++ t285) ++ t288) ++ t289))).bind fun bt290 => ((some (([0, 150, 3, 3] : List Int) : List Int)).bind fun y295 => (if 0 ≤ (wrap64 (Int.tmod a0 4)) then (if (wrap64 (Int.tmod a0 4)) < (y295.length : Int) then (if bt290.2.2.2 = (rd y295 (wrap64 (Int.tmod a0 4))) then ((path_Domain.f kj14 ((((((((t285 ++ (⟨#[46]⟩ : ByteArray)) ++ t285) ++ (⟨#[46]⟩ : ByteArray)) ++ t285) ++ (⟨#[46]⟩ : ByteArray)) ++ t285) ++ t288) ++ t289)).bind fun t299 => (frankinglaw15_PathLimits.j2 kj14 (wrap64 (Int.tmod a0 4)) (t299 != ((wrap64 (Int.tmod a0 4)) == 0)))) else (frankinglaw15_PathLimits.j2 kj14 (wrap64 (Int.tmod a0 4)) true)) else (none)) else (none)))) else (none)) else (none))) else (none))) else (none)) else (none)) else (none)) else (none)) else (none)) else (none)))) else (none)))) = some r := by rw [if_neg (show ¬ (false = true) by decide)] at H; exact H
              clear H
              have H := H1
              clear H1
              replace H := Option.bind_eq_some_iff.mp H
              obtain ⟨t285, A270, H⟩ := H
              replace H : ((strings_Repeat.f (⟨#[98]⟩ : ByteArray) (wrap64 (Int.tmod a0 4))).bind fun t286 => (if t285.size + t286.size ≤ 9223372036854775807 then ((path_Domain.f kj14 (t285 ++ t286)).bind fun t287 => (if (t287 != ((wrap64 (Int.tmod a0 4)) == 0)) = true then (none) else (if t285.size + 1 ≤ 9223372036854775807 then (if (t285 ++ (⟨#[46]⟩ : ByteArray)).size + t285.size ≤ 9223372036854775807 then (if ((t285 ++ (⟨#[46]⟩ : ByteArray)) ++ t285).size + 1 ≤ 9223372036854775807 then (if (((t285 ++ (⟨#[46]⟩ : ByteArray)) ++ t285) ++ (⟨#[46]⟩ : ByteArray)).size + t285.size ≤ 9223372036854775807 then (if ((((t285 ++ (⟨#[46]⟩ : ByteArray)) ++ t285) ++ (⟨#[46]⟩ : ByteArray)) ++ t285).size + 1 ≤ 9223372036854775807 then (if (((((t285 ++ (⟨#[46]⟩ : ByteArray)) ++ t285) ++ (⟨#[46]⟩ : ByteArray)) ++ t285) ++ (⟨#[46]⟩ : ByteArray)).size + t285.size ≤ 9223372036854775807 then ((strings_Repeat.f (⟨#[46]⟩ : ByteArray) (mn (wrap64 (Int.tmod a0 4)) 1)).bind fun t288 => (if ((((((t285 ++ (⟨#[46]⟩ : ByteArray)) ++ t285) ++ (⟨#[46]⟩ : ByteArray)) ++ t285) ++ (⟨#[46]⟩ : ByteArray)) ++ t285).size + t288.size ≤ 9223372036854775807 then ((strings_Repeat.f (⟨#[99]⟩ : ByteArray) (mx (wrap64 ((wrap64 (Int.tmod a0 4)) - 1)) 0)).bind fun t289 => (if (((((((t285 ++ (⟨#[46]⟩ : ByteArray)) ++ t285) ++ (⟨#[46]⟩ : ByteArray)) ++ t285) ++ (⟨#[46]⟩ : ByteArray)) ++ t285) ++ t288).size + t289.size ≤ 9223372036854775807 then (if 2 + ((((((((t285 ++ (⟨#[46]⟩ : ByteArray)) ++ t285) ++ (⟨#[46]⟩ : ByteArray)) ++ t285) ++ (⟨#[46]⟩ : ByteArray)) ++ t285) ++ t288) ++ t289).size ≤ 9223372036854775807 then ((path_Mailbox.f kj14 ((⟨#[97, 64]⟩ : ByteArray) ++ ((((((((t285 ++ (⟨#[46]⟩ : ByteArray)) ++ t285) ++ (⟨#[46]⟩ : ByteArray)) ++ t285) ++ (⟨#[46]⟩ : ByteArray)) ++ t285) ++ t288) ++ t289))).bind fun bt290 => ((some (([0, 150, 3, 3] : List Int) : List Int)).bind fun y295 => (if 0 ≤ (wrap64 (Int.tmod a0 4)) then (if (wrap64 (Int.tmod a0 4)) < (y295.length : Int) then (if bt290.2.2.2 = (rd y295 (wrap64 (Int.tmod a0 4))) then ((path_Domain.f kj14 ((((((((t285 ++ (⟨#[46]⟩ : ByteArray)) ++ t285) ++ (⟨#[46]⟩ : ByteArray)) ++ t285) ++ (⟨#[46]⟩ : ByteArray)) ++ t285) ++ t288) ++ t289)).bind fun t299 => (frankinglaw15_PathLimits.j2 kj14 (wrap64 (Int.tmod a0 4)) (t299 != ((wrap64 (Int.tmod a0 4)) == 0)))) else (frankinglaw15_PathLimits.j2 kj14 (wrap64 (Int.tmod a0 4)) true)) else (none)) else (none)))) else (none)) else (none))) else (none))) else (none)) else (none)) else (none)) else (none)) else (none)) else (none)))) else (none))) = some r := H
              have A27 := Aside0.mk A270
              clear A270
              replace H := Option.bind_eq_some_iff.mp H
              obtain ⟨t286, A280, H⟩ := H
              replace H : (if t285.size + t286.size ≤ 9223372036854775807 then ((path_Domain.f kj14 (t285 ++ t286)).bind fun t287 => (if (t287 != ((wrap64 (Int.tmod a0 4)) == 0)) = true then (none) else (if t285.size + 1 ≤ 9223372036854775807 then (if (t285 ++ (⟨#[46]⟩ : ByteArray)).size + t285.size ≤ 9223372036854775807 then (if ((t285 ++ (⟨#[46]⟩ : ByteArray)) ++ t285).size + 1 ≤ 9223372036854775807 then (if (((t285 ++ (⟨#[46]⟩ : ByteArray)) ++ t285) ++ (⟨#[46]⟩ : ByteArray)).size + t285.size ≤ 9223372036854775807 then (if ((((t285 ++ (⟨#[46]⟩ : ByteArray)) ++ t285) ++ (⟨#[46]⟩ : ByteArray)) ++ t285).size + 1 ≤ 9223372036854775807 then (if (((((t285 ++ (⟨#[46]⟩ : ByteArray)) ++ t285) ++ (⟨#[46]⟩ : ByteArray)) ++ t285) ++ (⟨#[46]⟩ : ByteArray)).size + t285.size ≤ 9223372036854775807 then ((strings_Repeat.f (⟨#[46]⟩ : ByteArray) (mn (wrap64 (Int.tmod a0 4)) 1)).bind fun t288 => (if ((((((t285 ++ (⟨#[46]⟩ : ByteArray)) ++ t285) ++ (⟨#[46]⟩ : ByteArray)) ++ t285) ++ (⟨#[46]⟩ : ByteArray)) ++ t285).size + t288.size ≤ 9223372036854775807 then ((strings_Repeat.f (⟨#[99]⟩ : ByteArray) (mx (wrap64 ((wrap64 (Int.tmod a0 4)) - 1)) 0)).bind fun t289 => (if (((((((t285 ++ (⟨#[46]⟩ : ByteArray)) ++ t285) ++ (⟨#[46]⟩ : ByteArray)) ++ t285) ++ (⟨#[46]⟩ : ByteArray)) ++ t285) ++ t288).size + t289.size ≤ 9223372036854775807 then (if 2 + ((((((((t285 ++ (⟨#[46]⟩ : ByteArray)) ++ t285) ++ (⟨#[46]⟩ : ByteArray)) ++ t285) ++ (⟨#[46]⟩ : ByteArray)) ++ t285) ++ t288) ++ t289).size ≤ 9223372036854775807 then ((path_Mailbox.f kj14 ((⟨#[97, 64]⟩ : ByteArray) ++ ((((((((t285 ++ (⟨#[46]⟩ : ByteArray)) ++ t285) ++ (⟨#[46]⟩ : ByteArray)) ++ t285) ++ (⟨#[46]⟩ : ByteArray)) ++ t285) ++ t288) ++ t289))).bind fun bt290 => ((some (([0, 150, 3, 3] : List Int) : List Int)).bind fun y295 => (if 0 ≤ (wrap64 (Int.tmod a0 4)) then (if (wrap64 (Int.tmod a0 4)) < (y295.length : Int) then (if bt290.2.2.2 = (rd y295 (wrap64 (Int.tmod a0 4))) then ((path_Domain.f kj14 ((((((((t285 ++ (⟨#[46]⟩ : ByteArray)) ++ t285) ++ (⟨#[46]⟩ : ByteArray)) ++ t285) ++ (⟨#[46]⟩ : ByteArray)) ++ t285) ++ t288) ++ t289)).bind fun t299 => (frankinglaw15_PathLimits.j2 kj14 (wrap64 (Int.tmod a0 4)) (t299 != ((wrap64 (Int.tmod a0 4)) == 0)))) else (frankinglaw15_PathLimits.j2 kj14 (wrap64 (Int.tmod a0 4)) true)) else (none)) else (none)))) else (none)) else (none))) else (none))) else (none)) else (none)) else (none)) else (none)) else (none)) else (none)))) else (none)) = some r := H
              have A28 := Aside0.mk A280
              clear A280
              by_cases c29 : t285.size + t286.size ≤ 9223372036854775807
              · rw [if_pos c29] at H
                have c29b0 := eq_true c29
                have c29b1 : decide (t285.size + t286.size ≤ 9223372036854775807) = true := decide_eq_true c29
                try have c29b2 : (9223372036854775807 < t285.size + t286.size) = False := eq_false (Nat.not_lt.2 c29)
                replace H := Option.bind_eq_some_iff.mp H
                obtain ⟨t287, A300, H⟩ := H
                replace H : (if (t287 != ((wrap64 (Int.tmod a0 4)) == 0)) = true then (none) else (if t285.size + 1 ≤ 9223372036854775807 then (if (t285 ++ (⟨#[46]⟩ : ByteArray)).size + t285.size ≤ 9223372036854775807 then (if ((t285 ++ (⟨#[46]⟩ : ByteArray)) ++ t285).size + 1 ≤ 9223372036854775807 then (if (((t285 ++ (⟨#[46]⟩ : ByteArray)) ++ t285) ++ (⟨#[46]⟩ : ByteArray)).size + t285.size ≤ 9223372036854775807 then (if ((((t285 ++ (⟨#[46]⟩ : ByteArray)) ++ t285) ++ (⟨#[46]⟩ : ByteArray)) ++ t285).size + 1 ≤ 9223372036854775807 then (if (((((t285 ++ (⟨#[46]⟩ : ByteArray)) ++ t285) ++ (⟨#[46]⟩ : ByteArray)) ++ t285) ++ (⟨#[46]⟩ : ByteArray)).size + t285.size ≤ 9223372036854775807 then ((strings_Repeat.f (⟨#[46]⟩ : ByteArray) (mn (wrap64 (Int.tmod a0 4)) 1)).bind fun t288 => (if ((((((t285 ++ (⟨#[46]⟩ : ByteArray)) ++ t285) ++ (⟨#[46]⟩ : ByteArray)) ++ t285) ++ (⟨#[46]⟩ : ByteArray)) ++ t285).size + t288.size ≤ 9223372036854775807 then ((strings_Repeat.f (⟨#[99]⟩ : ByteArray) (mx (wrap64 ((wrap64 (Int.tmod a0 4)) - 1)) 0)).bind fun t289 => (if (((((((t285 ++ (⟨#[46]⟩ : ByteArray)) ++ t285) ++ (⟨#[46]⟩ : ByteArray)) ++ t285) ++ (⟨#[46]⟩ : ByteArray)) ++ t285) ++ t288).size + t289.size ≤ 9223372036854775807 then (if 2 + ((((((((t285 ++ (⟨#[46]⟩ : ByteArray)) ++ t285) ++ (⟨#[46]⟩ : ByteArray)) ++ t285) ++ (⟨#[46]⟩ : ByteArray)) ++ t285) ++ t288) ++ t289).size ≤ 9223372036854775807 then ((path_Mailbox.f kj14 ((⟨#[97, 64]⟩ : ByteArray) ++ ((((((((t285 ++ (⟨#[46]⟩ : ByteArray)) ++ t285) ++ (⟨#[46]⟩ : ByteArray)) ++ t285) ++ (⟨#[46]⟩ : ByteArray)) ++ t285) ++ t288) ++ t289))).bind fun bt290 => ((some (([0, 150, 3, 3] : List Int) : List Int)).bind fun y295 => (if 0 ≤ (wrap64 (Int.tmod a0 4)) then (if (wrap64 (Int.tmod a0 4)) < (y295.length : Int) then (if bt290.2.2.2 = (rd y295 (wrap64 (Int.tmod a0 4))) then ((path_Domain.f kj14 ((((((((t285 ++ (⟨#[46]⟩ : ByteArray)) ++ t285) ++ (⟨#[46]⟩ : ByteArray)) ++ t285) ++ (⟨#[46]⟩ : ByteArray)) ++ t285) ++ t288) ++ t289)).bind fun t299 => (frankinglaw15_PathLimits.j2 kj14 (wrap64 (Int.tmod a0 4)) (t299 != ((wrap64 (Int.tmod a0 4)) == 0)))) else (frankinglaw15_PathLimits.j2 kj14 (wrap64 (Int.tmod a0 4)) true)) else (none)) else (none)))) else (none)) else (none))) else (none))) else (none)) else (none)) else (none)) else (none)) else (none)) else (none))) = some r := H
                have A30 := Aside0.mk A300
                clear A300
                by_cases c31 : (t287 != ((wrap64 (Int.tmod a0 4)) == 0)) = true
                · rw [if_pos c31] at H
                  exact absurd H (by simp)
                · rw [if_neg c31] at H
                  have c31b0 : (t287 != ((wrap64 (Int.tmod a0 4)) == 0)) = false := by simpa using c31
                  (try (have c31b1 : decide (t287 = ((wrap64 (Int.tmod a0 4)) == 0)) = true := by simpa using c31))
                  (try (have c31b2 : (t287 == ((wrap64 (Int.tmod a0 4)) == 0)) = true := by simpa using c31))
                  clear c31
                  by_cases c32 : t285.size + 1 ≤ 9223372036854775807
                  · rw [if_pos c32] at H
                    have c32b0 := eq_true c32
                    have c32b1 : decide (t285.size + 1 ≤ 9223372036854775807) = true := decide_eq_true c32
                    try have c32b2 : (9223372036854775807 < t285.size + 1) = False := eq_false (Nat.not_lt.2 c32)
                    by_cases c33 : (t285 ++ (⟨#[46]⟩ : ByteArray)).size + t285.size ≤ 9223372036854775807
                    · rw [if_pos c33] at H
                      have c33b0 := eq_true c33
                      have c33b1 : decide ((t285 ++ (⟨#[46]⟩ : ByteArray)).size + t285.size ≤ 9223372036854775807) = true := decide_eq_true c33
                      try have c33b2 : (9223372036854775807 < (t285 ++ (⟨#[46]⟩ : ByteArray)).size + t285.size) = False := eq_false (Nat.not_lt.2 c33)
                      try (have c33b3 := c33b2; simp only [ByteArray.size_append] at c33b3)
                      try have c33b4 : (9223372036854775807 < (t285.size + 1) + t285.size) = False := c33b3
                      by_cases c34 : ((t285 ++ (⟨#[46]⟩ : ByteArray)) ++ t285).size + 1 ≤ 9223372036854775807
                      · rw [if_pos c34] at H
                        have c34b0 := eq_true c34
                        have c34b1 : decide (((t285 ++ (⟨#[46]⟩ : ByteArray)) ++ t285).size + 1 ≤ 9223372036854775807) = true := decide_eq_true c34
                        try have c34b2 : (9223372036854775807 < ((t285 ++ (⟨#[46]⟩ : ByteArray)) ++ t285).size + 1) = False := eq_false (Nat.not_lt.2 c34)
                        try (have c34b3 := c34b2; simp only [ByteArray.size_append] at c34b3)
                        try have c34b4 : (9223372036854775807 < (t285.size + 1 + t285.size) + 1) = False := c34b3
                        by_cases c35 : (((t285 ++ (⟨#[46]⟩ : ByteArray)) ++ t285) ++ (⟨#[46]⟩ : ByteArray)).size + t285.size ≤ 9223372036854775807
                        · rw [if_pos c35] at H
                          have c35b0 := eq_true c35
                          have c35b1 : decide ((((t285 ++ (⟨#[46]⟩ : ByteArray)) ++ t285) ++ (⟨#[46]⟩ : ByteArray)).size + t285.size ≤ 9223372036854775807) = true := decide_eq_true c35
                          try have c35b2 : (9223372036854775807 < (((t285 ++ (⟨#[46]⟩ : ByteArray)) ++ t285) ++ (⟨#[46]⟩ : ByteArray)).size + t285.size) = False := eq_false (Nat.not_lt.2 c35)
                          try (have c35b3 := c35b2; simp only [ByteArray.size_append] at c35b3)
                          try have c35b4 : (9223372036854775807 < (t285.size + 1 + t285.size + 1) + t285.size) = False := c35b3
                          by_cases c36 : ((((t285 ++ (⟨#[46]⟩ : ByteArray)) ++ t285) ++ (⟨#[46]⟩ : ByteArray)) ++ t285).size + 1 ≤ 9223372036854775807
                          · rw [if_pos c36] at H
                            have c36b0 := eq_true c36
                            have c36b1 : decide (((((t285 ++ (⟨#[46]⟩ : ByteArray)) ++ t285) ++ (⟨#[46]⟩ : ByteArray)) ++ t285).size + 1 ≤ 9223372036854775807) = true := decide_eq_true c36
                            try have c36b2 : (9223372036854775807 < ((((t285 ++ (⟨#[46]⟩ : ByteArray)) ++ t285) ++ (⟨#[46]⟩ : ByteArray)) ++ t285).size + 1) = False := eq_false (Nat.not_lt.2 c36)
                            try (have c36b3 := c36b2; simp only [ByteArray.size_append] at c36b3)
                            try have c36b4 : (9223372036854775807 < (t285.size + 1 + t285.size + 1 + t285.size) + 1) = False := c36b3
                            by_cases c37 : (((((t285 ++ (⟨#[46]⟩ : ByteArray)) ++ t285) ++ (⟨#[46]⟩ : ByteArray)) ++ t285) ++ (⟨#[46]⟩ : ByteArray)).size + t285.size ≤ 9223372036854775807
                            · rw [if_pos c37] at H
                              have c37b0 := eq_true c37
                              have c37b1 : decide ((((((t285 ++ (⟨#[46]⟩ : ByteArray)) ++ t285) ++ (⟨#[46]⟩ : ByteArray)) ++ t285) ++ (⟨#[46]⟩ : ByteArray)).size + t285.size ≤ 9223372036854775807) = true := decide_eq_true c37
                              try have c37b2 : (9223372036854775807 < (((((t285 ++ (⟨#[46]⟩ : ByteArray)) ++ t285) ++ (⟨#[46]⟩ : ByteArray)) ++ t285) ++ (⟨#[46]⟩ : ByteArray)).size + t285.size) = False := eq_false (Nat.not_lt.2 c37)
                              try (have c37b3 := c37b2; simp only [ByteArray.size_append] at c37b3)
                              try have c37b4 : (9223372036854775807 < (t285.size + 1 + t285.size + 1 + t285.size + 1) + t285.size) = False := c37b3
                              obtain ⟨ji38, hji38⟩ : ∃ j_ : Int, (mn (wrap64 (Int.tmod a0 4)) 1) = j_ := ⟨_, rfl⟩
                              replace H : ((strings_Repeat.f (⟨#[46]⟩ : ByteArray) (ji38)).bind fun t288 => (if ((((((t285 ++ (⟨#[46]⟩ : ByteArray)) ++ t285) ++ (⟨#[46]⟩ : ByteArray)) ++ t285) ++ (⟨#[46]⟩ : ByteArray)) ++ t285).size + t288.size ≤ 9223372036854775807 then ((strings_Repeat.f (⟨#[99]⟩ : ByteArray) (mx (wrap64 ((wrap64 (Int.tmod a0 4)) - 1)) 0)).bind fun t289 => (if (((((((t285 ++ (⟨#[46]⟩ : ByteArray)) ++ t285) ++ (⟨#[46]⟩ : ByteArray)) ++ t285) ++ (⟨#[46]⟩ : ByteArray)) ++ t285) ++ t288).size + t289.size ≤ 9223372036854775807 then (if 2 + ((((((((t285 ++ (⟨#[46]⟩ : ByteArray)) ++ t285) ++ (⟨#[46]⟩ : ByteArray)) ++ t285) ++ (⟨#[46]⟩ : ByteArray)) ++ t285) ++ t288) ++ t289).size ≤ 9223372036854775807 then ((path_Mailbox.f kj14 ((⟨#[97, 64]⟩ : ByteArray) ++ ((((((((t285 ++ (⟨#[46]⟩ : ByteArray)) ++ t285) ++ (⟨#[46]⟩ : ByteArray)) ++ t285) ++ (⟨#[46]⟩ : ByteArray)) ++ t285) ++ t288) ++ t289))).bind fun bt290 => ((some (([0, 150, 3, 3] : List Int) : List Int)).bind fun y295 => (if 0 ≤ (wrap64 (Int.tmod a0 4)) then (if (wrap64 (Int.tmod a0 4)) < (y295.length : Int) then (if bt290.2.2.2 = (rd y295 (wrap64 (Int.tmod a0 4))) then ((path_Domain.f kj14 ((((((((t285 ++ (⟨#[46]⟩ : ByteArray)) ++ t285) ++ (⟨#[46]⟩ : ByteArray)) ++ t285) ++ (⟨#[46]⟩ : ByteArray)) ++ t285) ++ t288) ++ t289)).bind fun t299 => (frankinglaw15_PathLimits.j2 kj14 (wrap64 (Int.tmod a0 4)) (t299 != ((wrap64 (Int.tmod a0 4)) == 0)))) else (frankinglaw15_PathLimits.j2 kj14 (wrap64 (Int.tmod a0 4)) true)) else (none)) else (none)))) else (none)) else (none))) else (none))) = some r := by first | (rw [hji38] at H; exact H) | (simp only [hji38] at H ⊢; exact H)
                              (try rw [hji38] at A27)
                              (try rw [hji38] at A28)
                              (try rw [hji38] at A30)
                              have hji38_ : (if 1 < (wrap64 (Int.tmod a0 4)) then 1 else (wrap64 (Int.tmod a0 4))) = ji38 := hji38
                              replace H := Option.bind_eq_some_iff.mp H
                              obtain ⟨t288, A390, H⟩ := H
                              replace H : (if ((((((t285 ++ (⟨#[46]⟩ : ByteArray)) ++ t285) ++ (⟨#[46]⟩ : ByteArray)) ++ t285) ++ (⟨#[46]⟩ : ByteArray)) ++ t285).size + t288.size ≤ 9223372036854775807 then ((strings_Repeat.f (⟨#[99]⟩ : ByteArray) (mx (wrap64 ((wrap64 (Int.tmod a0 4)) - 1)) 0)).bind fun t289 => (if (((((((t285 ++ (⟨#[46]⟩ : ByteArray)) ++ t285) ++ (⟨#[46]⟩ : ByteArray)) ++ t285) ++ (⟨#[46]⟩ : ByteArray)) ++ t285) ++ t288).size + t289.size ≤ 9223372036854775807 then (if 2 + ((((((((t285 ++ (⟨#[46]⟩ : ByteArray)) ++ t285) ++ (⟨#[46]⟩ : ByteArray)) ++ t285) ++ (⟨#[46]⟩ : ByteArray)) ++ t285) ++ t288) ++ t289).size ≤ 9223372036854775807 then ((path_Mailbox.f kj14 ((⟨#[97, 64]⟩ : ByteArray) ++ ((((((((t285 ++ (⟨#[46]⟩ : ByteArray)) ++ t285) ++ (⟨#[46]⟩ : ByteArray)) ++ t285) ++ (⟨#[46]⟩ : ByteArray)) ++ t285) ++ t288) ++ t289))).bind fun bt290 => ((some (([0, 150, 3, 3] : List Int) : List Int)).bind fun y295 => (if 0 ≤ (wrap64 (Int.tmod a0 4)) then (if (wrap64 (Int.tmod a0 4)) < (y295.length : Int) then (if bt290.2.2.2 = (rd y295 (wrap64 (Int.tmod a0 4))) then ((path_Domain.f kj14 ((((((((t285 ++ (⟨#[46]⟩ : ByteArray)) ++ t285) ++ (⟨#[46]⟩ : ByteArray)) ++ t285) ++ (⟨#[46]⟩ : ByteArray)) ++ t285) ++ t288) ++ t289)).bind fun t299 => (frankinglaw15_PathLimits.j2 kj14 (wrap64 (Int.tmod a0 4)) (t299 != ((wrap64 (Int.tmod a0 4)) == 0)))) else (frankinglaw15_PathLimits.j2 kj14 (wrap64 (Int.tmod a0 4)) true)) else (none)) else (none)))) else (none)) else (none))) else (none)) = some r := H
                              have A39 := Aside0.mk A390
                              clear A390
                              by_cases c40 : ((((((t285 ++ (⟨#[46]⟩ : ByteArray)) ++ t285) ++ (⟨#[46]⟩ : ByteArray)) ++ t285) ++ (⟨#[46]⟩ : ByteArray)) ++ t285).size + t288.size ≤ 9223372036854775807
                              · rw [if_pos c40] at H
                                have c40b0 := eq_true c40
                                have c40b1 : decide (((((((t285 ++ (⟨#[46]⟩ : ByteArray)) ++ t285) ++ (⟨#[46]⟩ : ByteArray)) ++ t285) ++ (⟨#[46]⟩ : ByteArray)) ++ t285).size + t288.size ≤ 9223372036854775807) = true := decide_eq_true c40
                                try have c40b2 : (9223372036854775807 < ((((((t285 ++ (⟨#[46]⟩ : ByteArray)) ++ t285) ++ (⟨#[46]⟩ : ByteArray)) ++ t285) ++ (⟨#[46]⟩ : ByteArray)) ++ t285).size + t288.size) = False := eq_false (Nat.not_lt.2 c40)
                                try (have c40b3 := c40b2; simp only [ByteArray.size_append] at c40b3)
                                try have c40b4 : (9223372036854775807 < (t285.size + 1 + t285.size + 1 + t285.size + 1 + t285.size) + t288.size) = False := c40b3
                                obtain ⟨ji41, hji41⟩ : ∃ j_ : Int, (mx (wrap64 ((wrap64 (Int.tmod a0 4)) - 1)) 0) = j_ := ⟨_, rfl⟩
                                replace H : ((strings_Repeat.f (⟨#[99]⟩ : ByteArray) (ji41)).bind fun t289 => (if (((((((t285 ++ (⟨#[46]⟩ : ByteArray)) ++ t285) ++ (⟨#[46]⟩ : ByteArray)) ++ t285) ++ (⟨#[46]⟩ : ByteArray)) ++ t285) ++ t288).size + t289.size ≤ 9223372036854775807 then (if 2 + ((((((((t285 ++ (⟨#[46]⟩ : ByteArray)) ++ t285) ++ (⟨#[46]⟩ : ByteArray)) ++ t285) ++ (⟨#[46]⟩ : ByteArray)) ++ t285) ++ t288) ++ t289).size ≤ 9223372036854775807 then ((path_Mailbox.f kj14 ((⟨#[97, 64]⟩ : ByteArray) ++ ((((((((t285 ++ (⟨#[46]⟩ : ByteArray)) ++ t285) ++ (⟨#[46]⟩ : ByteArray)) ++ t285) ++ (⟨#[46]⟩ : ByteArray)) ++ t285) ++ t288) ++ t289))).bind fun bt290 => ((some (([0, 150, 3, 3] : List Int) : List Int)).bind fun y295 => (if 0 ≤ (wrap64 (Int.tmod a0 4)) then (if (wrap64 (Int.tmod a0 4)) < (y295.length : Int) then (if bt290.2.2.2 = (rd y295 (wrap64 (Int.tmod a0 4))) then ((path_Domain.f kj14 ((((((((t285 ++ (⟨#[46]⟩ : ByteArray)) ++ t285) ++ (⟨#[46]⟩ : ByteArray)) ++ t285) ++ (⟨#[46]⟩ : ByteArray)) ++ t285) ++ t288) ++ t289)).bind fun t299 => (frankinglaw15_PathLimits.j2 kj14 (wrap64 (Int.tmod a0 4)) (t299 != ((wrap64 (Int.tmod a0 4)) == 0)))) else (frankinglaw15_PathLimits.j2 kj14 (wrap64 (Int.tmod a0 4)) true)) else (none)) else (none)))) else (none)) else (none))) = some r := by first | (rw [hji41] at H; exact H) | (simp only [hji41] at H ⊢; exact H)
                                (try rw [hji41] at A27)
                                (try rw [hji41] at A28)
                                (try rw [hji41] at A30)
                                (try rw [hji41] at A39)
                                have hji41_ : (if (wrap64 ((wrap64 (Int.tmod a0 4)) - 1)) < 0 then 0 else (wrap64 ((wrap64 (Int.tmod a0 4)) - 1))) = ji41 := hji41
                                replace H := Option.bind_eq_some_iff.mp H
                                obtain ⟨t289, A420, H⟩ := H
                                replace H : (if (((((((t285 ++ (⟨#[46]⟩ : ByteArray)) ++ t285) ++ (⟨#[46]⟩ : ByteArray)) ++ t285) ++ (⟨#[46]⟩ : ByteArray)) ++ t285) ++ t288).size + t289.size ≤ 9223372036854775807 then (if 2 + ((((((((t285 ++ (⟨#[46]⟩ : ByteArray)) ++ t285) ++ (⟨#[46]⟩ : ByteArray)) ++ t285) ++ (⟨#[46]⟩ : ByteArray)) ++ t285) ++ t288) ++ t289).size ≤ 9223372036854775807 then ((path_Mailbox.f kj14 ((⟨#[97, 64]⟩ : ByteArray) ++ ((((((((t285 ++ (⟨#[46]⟩ : ByteArray)) ++ t285) ++ (⟨#[46]⟩ : ByteArray)) ++ t285) ++ (⟨#[46]⟩ : ByteArray)) ++ t285) ++ t288) ++ t289))).bind fun bt290 => ((some (([0, 150, 3, 3] : List Int) : List Int)).bind fun y295 => (if 0 ≤ (wrap64 (Int.tmod a0 4)) then (if (wrap64 (Int.tmod a0 4)) < (y295.length : Int) then (if bt290.2.2.2 = (rd y295 (wrap64 (Int.tmod a0 4))) then ((path_Domain.f kj14 ((((((((t285 ++ (⟨#[46]⟩ : ByteArray)) ++ t285) ++ (⟨#[46]⟩ : ByteArray)) ++ t285) ++ (⟨#[46]⟩ : ByteArray)) ++ t285) ++ t288) ++ t289)).bind fun t299 => (frankinglaw15_PathLimits.j2 kj14 (wrap64 (Int.tmod a0 4)) (t299 != ((wrap64 (Int.tmod a0 4)) == 0)))) else (frankinglaw15_PathLimits.j2 kj14 (wrap64 (Int.tmod a0 4)) true)) else (none)) else (none)))) else (none)) else (none)) = some r := H
                                have A42 := Aside0.mk A420
                                clear A420
                                by_cases c43 : (((((((t285 ++ (⟨#[46]⟩ : ByteArray)) ++ t285) ++ (⟨#[46]⟩ : ByteArray)) ++ t285) ++ (⟨#[46]⟩ : ByteArray)) ++ t285) ++ t288).size + t289.size ≤ 9223372036854775807
                                · rw [if_pos c43] at H
                                  have c43b0 := eq_true c43
                                  have c43b1 : decide ((((((((t285 ++ (⟨#[46]⟩ : ByteArray)) ++ t285) ++ (⟨#[46]⟩ : ByteArray)) ++ t285) ++ (⟨#[46]⟩ : ByteArray)) ++ t285) ++ t288).size + t289.size ≤ 9223372036854775807) = true := decide_eq_true c43
                                  try have c43b2 : (9223372036854775807 < (((((((t285 ++ (⟨#[46]⟩ : ByteArray)) ++ t285) ++ (⟨#[46]⟩ : ByteArray)) ++ t285) ++ (⟨#[46]⟩ : ByteArray)) ++ t285) ++ t288).size + t289.size) = False := eq_false (Nat.not_lt.2 c43)
                                  try (have c43b3 := c43b2; simp only [ByteArray.size_append] at c43b3)
                                  try have c43b4 : (9223372036854775807 < (t285.size + 1 + t285.size + 1 + t285.size + 1 + t285.size + t288.size) + t289.size) = False := c43b3
                                  by_cases c44 : 2 + ((((((((t285 ++ (⟨#[46]⟩ : ByteArray)) ++ t285) ++ (⟨#[46]⟩ : ByteArray)) ++ t285) ++ (⟨#[46]⟩ : ByteArray)) ++ t285) ++ t288) ++ t289).size ≤ 9223372036854775807
                                  · rw [if_pos c44] at H
                                    have c44b0 := eq_true c44
                                    have c44b1 : decide (2 + ((((((((t285 ++ (⟨#[46]⟩ : ByteArray)) ++ t285) ++ (⟨#[46]⟩ : ByteArray)) ++ t285) ++ (⟨#[46]⟩ : ByteArray)) ++ t285) ++ t288) ++ t289).size ≤ 9223372036854775807) = true := decide_eq_true c44
                                    try have c44b2 : (9223372036854775807 < 2 + ((((((((t285 ++ (⟨#[46]⟩ : ByteArray)) ++ t285) ++ (⟨#[46]⟩ : ByteArray)) ++ t285) ++ (⟨#[46]⟩ : ByteArray)) ++ t285) ++ t288) ++ t289).size) = False := eq_false (Nat.not_lt.2 c44)
                                    try (have c44b3 := c44b2; simp only [ByteArray.size_append] at c44b3)
                                    try have c44b4 : (9223372036854775807 < 2 + (t285.size + 1 + t285.size + 1 + t285.size + 1 + t285.size + t288.size + t289.size)) = False := c44b3
                                    replace H := Option.bind_eq_some_iff.mp H
                                    obtain ⟨⟨t290, t291, t292, t293⟩, A450, H⟩ := H
                                    replace H : ((some (([0, 150, 3, 3] : List Int) : List Int)).bind fun y295 => (if 0 ≤ (wrap64 (Int.tmod a0 4)) then (if (wrap64 (Int.tmod a0 4)) < (y295.length : Int) then (if t293 = (rd y295 (wrap64 (Int.tmod a0 4))) then ((path_Domain.f kj14 ((((((((t285 ++ (⟨#[46]⟩ : ByteArray)) ++ t285) ++ (⟨#[46]⟩ : ByteArray)) ++ t285) ++ (⟨#[46]⟩ : ByteArray)) ++ t285) ++ t288) ++ t289)).bind fun t299 => (frankinglaw15_PathLimits.j2 kj14 (wrap64 (Int.tmod a0 4)) (t299 != ((wrap64 (Int.tmod a0 4)) == 0)))) else (frankinglaw15_PathLimits.j2 kj14 (wrap64 (Int.tmod a0 4)) true)) else (none)) else (none))) = some r := H
                                    have A45 := Aside0.mk A450
                                    clear A450
                                    obtain ⟨y295, hy295⟩ : ∃ y_ : List Int, y_ = (([0, 150, 3, 3] : List Int)) := ⟨_, rfl⟩
                                    replace H : (if 0 ≤ (wrap64 (Int.tmod a0 4)) then (if (wrap64 (Int.tmod a0 4)) < (y295.length : Int) then (if t293 = (rd y295 (wrap64 (Int.tmod a0 4))) then ((path_Domain.f kj14 ((((((((t285 ++ (⟨#[46]⟩ : ByteArray)) ++ t285) ++ (⟨#[46]⟩ : ByteArray)) ++ t285) ++ (⟨#[46]⟩ : ByteArray)) ++ t285) ++ t288) ++ t289)).bind fun t299 => (frankinglaw15_PathLimits.j2 kj14 (wrap64 (Int.tmod a0 4)) (t299 != ((wrap64 (Int.tmod a0 4)) == 0)))) else (frankinglaw15_PathLimits.j2 kj14 (wrap64 (Int.tmod a0 4)) true)) else (none)) else (none)) = some r := by first | (rw [hy295]; with_reducible exact H) | (have H2_ := (Option.bind_some _ _).symm.trans H; rw [hy295]; with_reducible exact H2_) | (have H2_ := (Option.bind_some _ _).symm.trans H; with_reducible exact H2_) | with_reducible exact H | (rw [hy295]; exact H) | exact H
                                    have Ny295 := Aside0.mk hy295
                                    clear hy295
                                    obtain ⟨ji46, hji46⟩ : ∃ j_ : Int, (wrap64 (Int.tmod a0 4)) = j_ := ⟨_, rfl⟩
                                    replace H : (if 0 ≤ (ji46) then (if (ji46) < (y295.length : Int) then (if t293 = (rd y295 (ji46)) then ((path_Domain.f kj14 ((((((((t285 ++ (⟨#[46]⟩ : ByteArray)) ++ t285) ++ (⟨#[46]⟩ : ByteArray)) ++ t285) ++ (⟨#[46]⟩ : ByteArray)) ++ t285) ++ t288) ++ t289)).bind fun t299 => (frankinglaw15_PathLimits.j2 kj14 (ji46) (t299 != ((ji46) == 0)))) else (frankinglaw15_PathLimits.j2 kj14 (ji46) true)) else (none)) else (none)) = some r := by first | (rw [hji46] at H; exact H) | (simp only [hji46] at H ⊢; exact H)
                                    (try rw [hji46] at c31b0)
                                    (try rw [hji46] at c31b1)
                                    (try rw [hji46] at c31b2)
                                    (try rw [hji46] at A27)
                                    (try rw [hji46] at A28)
                                    (try rw [hji46] at A30)
                                    (try rw [hji46] at A39)
                                    (try rw [hji46] at A42)
                                    (try rw [hji46] at A45)
                                    have hji46w : (IntKind.i64.wrap (Int.tmod a0 4)) = ji46 := (i64_w _).trans hji46
                                    have hji38' : mn ji46 1 = ji38 := by rw [← hji46]; exact hji38
                                    have hji41' : mx (wrap64 (ji46 - 1)) 0 = ji41 := by rw [← hji46]; exact hji41
                                    by_cases c47 : 0 ≤ (ji46)
                                    · rw [if_pos c47] at H
                                      have c47b0 : decide (0 ≤ (ji46)) = true := decide_eq_true c47
                                      clear c47
                                      by_cases c48 : (ji46) < (y295.length : Int)
                                      · rw [if_pos c48] at H
                                        have c48b0 : decide ((ji46) < (y295.length : Int)) = true := decide_eq_true c48
                                        clear c48
                                        have HC49 := Aside0.mk H
                                        clear H
                                        go_upto_region 15 with (first | ((with_reducible refine gate_callee (f := 8) rfl ?_); refine goesL_ (some 63) rfl rfl Tryd.func8 (by kernel_rfl) rfl #[.string (⟨#[98]⟩ : ByteArray), .int .i64 63] rfl (by (try simp only [List.map_toArray, List.map_cons, List.map_nil]); first | done | rfl | (simp only [List.length_drop, List.length_take]; rfl)) ?_; (with_reducible refine (strings_Repeat.calls (⟨#[98]⟩ : ByteArray) 63 t285 _ A27.out).mono ?_); rintro e w50 ⟨rfl, hb⟩; refine ⟨_, rfl, ?_⟩; have n0_ := Aside0.mk (blk_below (g := gb284) (o := .cells #[.string t280, .string t281, .bool t282] 25 (0, 0)) (by (with_reducible repeat (first | refine blk_drewN ?_ _ | refine blk_drew ?_ | refine blk_alloc ?_ _)); exact BK284.out) hb); have n1_ := Aside0.mk (below_step (by repeat (first | (with_reducible first | exact HB.out | apply below_alloc | apply pw_below_drewN | apply below_drew1 | refine below_set ?_ GE284.out) | exact HB.out)) hb); clear BK284; clear HB; have BK284 := n0_; have HB := n1_; clear n0_ n1_; (try clear hb); (try clear hb2); (try clear hk); (try clear hi)) | ((with_reducible refine gate_callee (f := 8) rfl ?_); refine goesL_ (some 66) rfl rfl Tryd.func8 (by kernel_rfl) rfl #[.string (⟨#[98]⟩ : ByteArray), .int .i64 (ji46)] rfl (by (try simp only [List.map_toArray, List.map_cons, List.map_nil]); first | done | (simp only [hji46]; rfl) | rfl | (simp only [List.length_drop, List.length_take]; rfl)) ?_; (with_reducible refine (strings_Repeat.calls (⟨#[98]⟩ : ByteArray) (ji46) t286 _ A28.out).mono ?_); rintro e w51 ⟨rfl, hb⟩; refine ⟨_, rfl, ?_⟩; have n0_ := Aside0.mk (blk_below (g := gb284) (o := .cells #[.string t280, .string t281, .bool t282] 25 (0, 0)) (by (with_reducible repeat (first | refine blk_drewN ?_ _ | refine blk_drew ?_ | refine blk_alloc ?_ _)); exact BK284.out) hb); have n1_ := Aside0.mk (below_step (by repeat (first | (with_reducible first | exact HB.out | apply below_alloc | apply pw_below_drewN | apply below_drew1 | refine below_set ?_ GE284.out) | exact HB.out)) hb); clear BK284; clear HB; have BK284 := n0_; have HB := n1_; clear n0_ n1_; (try clear hb); (try clear hb2); (try clear hk); (try clear hi)) | ((with_reducible refine gate_callee (f := 10) rfl ?_); refine goesL_ (some 68) rfl rfl Tryd.func10 (by kernel_rfl) rfl #[.string (t285 ++ t286)] rfl (by (try simp only [List.map_toArray, List.map_cons, List.map_nil]); first | done | rfl | (simp only [List.length_drop, List.length_take]; rfl)) ?_; (with_reducible refine (path_Domain.calls kj14 (t285 ++ t286) t287 _ ?side1 A30.out).mono ?_); (case side1 => exact GlobalsOK.below HG.out (by repeat (first | (with_reducible first | exact HB.out | apply below_alloc | apply pw_below_drewN | apply below_drew1 | refine below_set ?_ GE284.out) | exact HB.out))); rintro e w52 ⟨rfl, hb⟩; refine ⟨_, rfl, ?_⟩; have n0_ := Aside0.mk (blk_below (g := gb284) (o := .cells #[.string t280, .string t281, .bool t282] 25 (0, 0)) (by (with_reducible repeat (first | refine blk_drewN ?_ _ | refine blk_drew ?_ | refine blk_alloc ?_ _)); exact BK284.out) hb); have n1_ := Aside0.mk (below_step (by repeat (first | (with_reducible first | exact HB.out | apply below_alloc | apply pw_below_drewN | apply below_drew1 | refine below_set ?_ GE284.out) | exact HB.out)) hb); clear BK284; clear HB; have BK284 := n0_; have HB := n1_; clear n0_ n1_; (try clear hb); (try clear hb2); (try clear hk); (try clear hi)) | ((with_reducible refine gate_callee (f := 8) rfl ?_); refine goesL_ (some 84) rfl rfl Tryd.func8 (by kernel_rfl) rfl #[.string (⟨#[46]⟩ : ByteArray), .int .i64 ji38] rfl (by (try simp only [List.map_toArray, List.map_cons, List.map_nil]); first | done | (simp only [hji38']; rfl) | (simp only [hji46, hji38']; rfl) | (simp only [i64_w, hji46, hji38']; rfl) | rfl | (simp only [List.length_drop, List.length_take]; rfl)) ?_; (with_reducible refine (strings_Repeat.calls (⟨#[46]⟩ : ByteArray) ji38 t288 _ A39.out).mono ?_); rintro e w53 ⟨rfl, hb⟩; refine ⟨_, rfl, ?_⟩; have n0_ := Aside0.mk (blk_below (g := gb284) (o := .cells #[.string t280, .string t281, .bool t282] 25 (0, 0)) (by (with_reducible repeat (first | refine blk_drewN ?_ _ | refine blk_drew ?_ | refine blk_alloc ?_ _)); exact BK284.out) hb); have n1_ := Aside0.mk (below_step (by repeat (first | (with_reducible first | exact HB.out | apply below_alloc | apply pw_below_drewN | apply below_drew1 | refine below_set ?_ GE284.out) | exact HB.out)) hb); clear BK284; clear HB; have BK284 := n0_; have HB := n1_; clear n0_ n1_; (try clear hb); (try clear hb2); (try clear hk); (try clear hi)) | ((with_reducible refine gate_callee (f := 8) rfl ?_); refine goesL_ (some 89) rfl rfl Tryd.func8 (by kernel_rfl) rfl #[.string (⟨#[99]⟩ : ByteArray), .int .i64 ji41] rfl (by (try simp only [List.map_toArray, List.map_cons, List.map_nil]); first | done | (simp only [hji41']; rfl) | (simp only [hji46, hji41']; rfl) | (simp only [i64_w, hji46, hji41']; rfl) | rfl | (simp only [List.length_drop, List.length_take]; rfl)) ?_; (with_reducible refine (strings_Repeat.calls (⟨#[99]⟩ : ByteArray) ji41 t289 _ A42.out).mono ?_); rintro e w54 ⟨rfl, hb⟩; refine ⟨_, rfl, ?_⟩; have n0_ := Aside0.mk (blk_below (g := gb284) (o := .cells #[.string t280, .string t281, .bool t282] 25 (0, 0)) (by (with_reducible repeat (first | refine blk_drewN ?_ _ | refine blk_drew ?_ | refine blk_alloc ?_ _)); exact BK284.out) hb); have n1_ := Aside0.mk (below_step (by repeat (first | (with_reducible first | exact HB.out | apply below_alloc | apply pw_below_drewN | apply below_drew1 | refine below_set ?_ GE284.out) | exact HB.out)) hb); clear BK284; clear HB; have BK284 := n0_; have HB := n1_; clear n0_ n1_; (try clear hb); (try clear hb2); (try clear hk); (try clear hi)) | ((with_reducible refine gate_callee (f := 9) rfl ?_); refine goesL_ (some 94) rfl rfl Tryd.func9 (by kernel_rfl) rfl #[.string ((⟨#[97, 64]⟩ : ByteArray) ++ ((((((((t285 ++ (⟨#[46]⟩ : ByteArray)) ++ t285) ++ (⟨#[46]⟩ : ByteArray)) ++ t285) ++ (⟨#[46]⟩ : ByteArray)) ++ t285) ++ t288) ++ t289))] rfl (by (try simp only [List.map_toArray, List.map_cons, List.map_nil]); first | done | rfl | (simp only [List.length_drop, List.length_take]; rfl)) ?_; (with_reducible refine (path_Mailbox.calls kj14 ((⟨#[97, 64]⟩ : ByteArray) ++ ((((((((t285 ++ (⟨#[46]⟩ : ByteArray)) ++ t285) ++ (⟨#[46]⟩ : ByteArray)) ++ t285) ++ (⟨#[46]⟩ : ByteArray)) ++ t285) ++ t288) ++ t289)) t290 t291 t292 t293 _ ?side1 A45.out).mono ?_); (case side1 => exact GlobalsOK.below HG.out (by repeat (first | (with_reducible first | exact HB.out | apply below_alloc | apply pw_below_drewN | apply below_drew1 | refine below_set ?_ GE284.out) | exact HB.out))); rintro e w55 ⟨rfl, hb⟩; refine ⟨_, rfl, ?_⟩; have n0_ := Aside0.mk (blk_below (g := gb284) (o := .cells #[.string t280, .string t281, .bool t282] 25 (0, 0)) (by (with_reducible repeat (first | refine blk_drewN ?_ _ | refine blk_drew ?_ | refine blk_alloc ?_ _)); exact BK284.out) hb); have n1_ := Aside0.mk (below_step (by repeat (first | (with_reducible first | exact HB.out | apply below_alloc | apply pw_below_drewN | apply below_drew1 | refine below_set ?_ GE284.out) | exact HB.out)) hb); clear BK284; clear HB; have BK284 := n0_; have HB := n1_; clear n0_ n1_; (try clear hb); (try clear hb2); (try clear hk); (try clear hi)) | ((with_reducible refine gate_dst (N := 12) rfl ?_); (try (refine gate_guard (by rfl) ?_; dsimp only)); refine box_event ?hg (N := 12) ?hd (cs := #[.string (⟨#[]⟩ : ByteArray), .string (⟨#[]⟩ : ByteArray), .bool false]) (t := 25) ?hr ?_; (case hd => rfl); (case hg => rfl); (case hr => first | (go_simp; done) | (go_simp; rfl)); intro gb294 hg w56 hbox hb; have n0_ := Aside0.mk (blk_below (g := gb284) (o := .cells #[.string t280, .string t281, .bool t282] 25 (0, 0)) (by (with_reducible repeat (first | refine blk_drewN ?_ _ | refine blk_drew ?_ | refine blk_alloc ?_ _)); exact BK284.out) hb); have n1_ := Aside0.mk (below_step (by repeat (first | (with_reducible first | exact HB.out | apply below_alloc | apply pw_below_drewN | apply below_drew1 | refine below_set ?_ GE284.out) | exact HB.out)) hb); have n2_ := Aside0.mk (hbox); have n3_ := Aside0.mk ((by rw [hg]; exact (below_size (by repeat (first | (with_reducible first | exact HB.out | apply below_alloc | apply pw_below_drewN | apply below_drew1 | refine below_set ?_ GE284.out) | exact HB.out))) : w.heap.size ≤ gb294)); have n4_ := Aside0.mk ((by rw [hg]; exact (below_size (by repeat (first | (with_reducible first | exact HB.out | apply below_alloc | apply pw_below_drewN | apply below_drew1 | refine below_set ?_ GE284.out) | exact HB.out))) : w.heap.size ≤ gb294)); have n5_ := Aside0.mk ((by rw [hg]; exact Nat.ne_of_lt (blk_lt (g := gb284) (o := .cells #[.string t280, .string t281, .bool t282] 25 (0, 0)) (by (with_reducible repeat (first | refine blk_drewN ?_ _ | refine blk_drew ?_ | refine blk_alloc ?_ _)); exact BK284.out)) : gb284 ≠ gb294)); have n6_ := Aside0.mk ((by rw [hg]; exact Nat.ne_of_gt (blk_lt (g := gb284) (o := .cells #[.string t280, .string t281, .bool t282] 25 (0, 0)) (by (with_reducible repeat (first | refine blk_drewN ?_ _ | refine blk_drew ?_ | refine blk_alloc ?_ _)); exact BK284.out)) : gb294 ≠ gb284)); clear BK284; clear HB; have BK284 := n0_; have HB := n1_; have BK294 := n2_; have GW294 := n3_; have GE294 := n4_; have NB284_294 := n5_; have NB294_284 := n6_; clear n0_ n1_ n2_ n3_ n4_ n5_ n6_; clear hb hbox hg; have hnb57 := NB294_284.out; have hnc57 := NB284_294.out; have hcz58_0 : w56.cell? ⟨gb294, 0, none⟩ = some (.string (⟨#[]⟩ : ByteArray)) := (blk_cell BK294.out 0).trans rfl; have hcz58_1 : w56.cell? ⟨gb294, 1, none⟩ = some (.string (⟨#[]⟩ : ByteArray)) := (blk_cell BK294.out 1).trans rfl; have hcz58_2 : w56.cell? ⟨gb294, 2, none⟩ = some (.bool false) := (blk_cell BK294.out 2).trans rfl; have hfz58_0 := blk_frozen BK294.out 0; have hfz58_1 := blk_frozen BK294.out 1; have hfz58_2 := blk_frozen BK294.out 2) | ((with_reducible refine gate_dst (N := 97) rfl ?_); (try (refine gate_guard (by rfl) ?_; dsimp only)); refine Kd.R_lit (Kd.int .i64) _ 28 ?hg (N := 97) ?hd (xs := ([0, 150, 3, 3] : List Int)) (inner := [.int .i64 0, .int .i64 150, .int .i64 3, .int .i64 3]) (ok := fun _ => True) (okp := fun _ => True) ?hr ?hp (fun _ hk => hk) trivial (Below.refl _ _) (Nat.le_refl _) (by simp) ?_; (case hd => rfl); (case hg => rfl); (case hr => first | (go_simp; done) | (go_simp; rfl)); (case hp => exact (Reps.one (show Kd.M (Kd.int .i64) _ _ _ 0 [.int .i64 0] from rfl) (Reps.one (show Kd.M (Kd.int .i64) _ _ _ 150 [.int .i64 150] from rfl) (Reps.one (show Kd.M (Kd.int .i64) _ _ _ 3 [.int .i64 3] from rfl) (Reps.one (show Kd.M (Kd.int .i64) _ _ _ 3 [.int .i64 3] from rfl) (Reps.none _ _)))))); intro v296 w59 ho60 hb hg_ hnew_; clear hg_ hnew_; (first | rw [← Ny295.out] at ho60 | (simp only [Int.reduceToNat] at ho60; rw [← Ny295.out] at ho60)); have n0_ := Aside0.mk (Kd.R_lower ho60 (below_size (by repeat (first | (with_reducible first | exact HB.out | apply below_alloc | apply pw_below_drewN | apply below_drew1 | refine below_set ?_ GE284.out | refine below_set ?_ GE294.out) | exact HB.out)))); have n1_ := Aside0.mk (blk_below (g := gb284) (o := .cells #[.string t280, .string t281, .bool t282] 25 (0, 0)) (by (with_reducible repeat (first | refine blk_drewN ?_ _ | refine blk_drew ?_ | refine blk_alloc ?_ _)); refine blk_far ?_ NB284_294.out _; (with_reducible repeat (first | refine blk_drewN ?_ _ | refine blk_drew ?_ | refine blk_alloc ?_ _)); refine blk_far ?_ NB284_294.out _; (with_reducible repeat (first | refine blk_drewN ?_ _ | refine blk_drew ?_ | refine blk_alloc ?_ _)); refine blk_far ?_ NB284_294.out _; (with_reducible repeat (first | refine blk_drewN ?_ _ | refine blk_drew ?_ | refine blk_alloc ?_ _)); exact BK284.out) hb); have n2_ := Aside0.mk (blk_below (g := gb294) (o := .cells #[.string t290, .string t291, .bool t292] 25 (0, 0)) (by (with_reducible repeat (first | refine blk_drewN ?_ _ | refine blk_drew ?_ | refine blk_alloc ?_ _)); refine blk_put (cs := #[.string t290, .string t291, .bool false]) ?_ 2 _ rfl; (with_reducible repeat (first | refine blk_drewN ?_ _ | refine blk_drew ?_ | refine blk_alloc ?_ _)); refine blk_put (cs := #[.string t290, .string (⟨#[]⟩ : ByteArray), .bool false]) ?_ 1 _ rfl; (with_reducible repeat (first | refine blk_drewN ?_ _ | refine blk_drew ?_ | refine blk_alloc ?_ _)); refine blk_put (cs := #[.string (⟨#[]⟩ : ByteArray), .string (⟨#[]⟩ : ByteArray), .bool false]) ?_ 0 _ rfl; (with_reducible repeat (first | refine blk_drewN ?_ _ | refine blk_drew ?_ | refine blk_alloc ?_ _)); exact BK294.out) hb); have n3_ := Aside0.mk (below_step (by repeat (first | (with_reducible first | exact HB.out | apply below_alloc | apply pw_below_drewN | apply below_drew1 | refine below_set ?_ GE284.out | refine below_set ?_ GE294.out) | exact HB.out)) hb); clear BK284; clear BK294; clear HB; have HO297 := n0_; have BK284 := n1_; have BK294 := n2_; have HB := n3_; clear n0_ n1_ n2_ n3_; clear hb ho60; obtain ⟨Ao61, co61, eo61⟩ := Kd.R_slice HO297.out; subst eo61; have p298 : 0 ≤ ((ji46) : Int) := of_decide_eq_true (by first | (with_reducible assumption) | assumption); have q298 : (ji46) < (y295.length : Int) := of_decide_eq_true (by first | (with_reducible assumption) | assumption); obtain ⟨ad298, e298, hx298_0⟩ := Kd.at_int (Kd.R_reads' HO297.out).2.2 (ji46) p298 q298; cases e298; replace p298 := eq_true p298; replace q298 := eq_true q298))
                                        (try simp only [Act.put, List.setIfInBounds_toArray, List.set_cons_zero, List.set_cons_succ])
                                        go_cut [110] (fun v110 wc => ∃ (kq : Nat) (x110_48 : Bool), v110 = .bool x110_48 ∧ Aside0 (frankinglaw15_PathLimits.j2 kq (ji46) x110_48 = some r) ∧ Aside0 (kq ≤ kj14) ∧ Aside0 (wc.heap[gb284]? = some (.cells #[.string t280, .string t281, .bool t282] 25 (0, 0))) ∧ Aside0 (wc.heap[gb294]? = some (.cells #[.string t290, .string t291, .bool t292] 25 (0, 0))) ∧ Aside0 (Below w.heap.size w wc))
                                        case first =>
                                          have H := HC49.out
                                          clear HC49
                                          by_cases c62 : t293 = (rd y295 (ji46))
                                          · rw [if_pos c62] at H
                                            have c62b0 : (t293 == (rd y295 (ji46))) = true := beq_iff_eq.mpr c62
                                            have c62b1 : (t293 != (rd y295 (ji46))) = false := bne_eq_false_iff_eq.mpr c62
                                            clear c62
                                            (first | rw [c62b0] | (simp only [i64_w, i32_w]; rw [c62b0]) | skip)
                                            replace H := Option.bind_eq_some_iff.mp H
                                            obtain ⟨t299, A630, H⟩ := H
                                            replace H : (frankinglaw15_PathLimits.j2 kj14 (ji46) (t299 != ((ji46) == 0))) = some r := H
                                            have A63 := Aside0.mk A630
                                            clear A630
                                            have H' := Aside0.mk H
                                            clear H
                                            go_wp2_with (first | (go_at_call 10; (with_reducible refine (path_Domain.calls kj14 ((((((((t285 ++ (⟨#[46]⟩ : ByteArray)) ++ t285) ++ (⟨#[46]⟩ : ByteArray)) ++ t285) ++ (⟨#[46]⟩ : ByteArray)) ++ t285) ++ t288) ++ t289) t299 _ ?side1 A63.out).mono ?_); (case side1 => exact GlobalsOK.below HG.out (by repeat (first | (with_reducible first | exact HB.out | apply below_alloc | apply pw_below_drewN | apply below_drew1 | refine below_set ?_ GE284.out | refine below_set ?_ GE294.out) | exact HB.out))); rintro e w64 ⟨rfl, hb⟩; have n0_ := Aside0.mk (Kd.R_below (by (with_reducible repeat (first | apply Kd.R_alloc | apply Kd.R_drewN | apply Kd.R_drew)); exact HO297.out) hb); have n1_ := Aside0.mk (blk_below (g := gb284) (o := .cells #[.string t280, .string t281, .bool t282] 25 (0, 0)) (by (with_reducible repeat (first | refine blk_drewN ?_ _ | refine blk_drew ?_ | refine blk_alloc ?_ _)); exact BK284.out) hb); have n2_ := Aside0.mk (blk_below (g := gb294) (o := .cells #[.string t290, .string t291, .bool t292] 25 (0, 0)) (by (with_reducible repeat (first | refine blk_drewN ?_ _ | refine blk_drew ?_ | refine blk_alloc ?_ _)); exact BK294.out) hb); have n3_ := Aside0.mk (below_step (by repeat (first | (with_reducible first | exact HB.out | apply below_alloc | apply pw_below_drewN | apply below_drew1 | refine below_set ?_ GE284.out | refine below_set ?_ GE294.out) | exact HB.out)) hb); clear HO297; clear BK284; clear BK294; clear HB; have HO297 := n0_; have BK284 := n1_; have BK294 := n2_; have HB := n3_; clear n0_ n1_ n2_ n3_; (try clear hb); (try clear hb2); (try clear hk); (try clear hi)))
                                            go_meet
                                            case rel => exact ⟨_, ((t299 != ((ji46) == 0))), (by first | rfl | (simp; done) | (simp only [← hji46] <;> (first | rfl | simp)) | (simp [*]; done) | (exfalso; simp_all; done)), H', ⟨by have := HJ3.out; have := HJ14.out; first | omega | exact Nat.le_refl _⟩, ⟨by (with_reducible repeat (first | refine blk_drewN ?_ _ | refine blk_drew ?_ | refine blk_alloc ?_ _)); exact BK284.out⟩, ⟨by (with_reducible repeat (first | refine blk_drewN ?_ _ | refine blk_drew ?_ | refine blk_alloc ?_ _)); exact BK294.out⟩, ⟨by repeat (first | (with_reducible first | exact HB.out | apply below_alloc | apply pw_below_drewN | apply below_drew1 | refine below_set ?_ GE284.out | refine below_set ?_ GE294.out) | exact HB.out)⟩⟩
                                          · rw [if_neg c62] at H
                                            have c62b0 : (t293 == (rd y295 (ji46))) = false := beq_eq_false_iff_ne.mpr c62
                                            have c62b1 : (t293 != (rd y295 (ji46))) = true := bne_iff_ne.mpr c62
                                            (first | rw [c62b0] | (simp only [i64_w, i32_w]; rw [c62b0]) | skip)
                                            have H' := Aside0.mk H
                                            clear H
                                            go_wp2
                                            go_meet
                                            case rel => exact ⟨_, (true), (by first | rfl | (simp; done) | (simp [*]; done) | (exfalso; simp_all; done)), H', ⟨by have := HJ3.out; have := HJ14.out; first | omega | exact Nat.le_refl _⟩, ⟨by (with_reducible repeat (first | refine blk_drewN ?_ _ | refine blk_drew ?_ | refine blk_alloc ?_ _)); exact BK284.out⟩, ⟨by (with_reducible repeat (first | refine blk_drewN ?_ _ | refine blk_drew ?_ | refine blk_alloc ?_ _)); exact BK294.out⟩, ⟨by repeat (first | (with_reducible first | exact HB.out | apply below_alloc | apply pw_below_drewN | apply below_drew1 | refine below_set ?_ GE284.out | refine below_set ?_ GE294.out) | exact HB.out)⟩⟩
                                        case rest =>
                                          clear HC49
                                          try clear c1
                                          try clear c2
                                          try clear p2
                                          try clear q2
                                          try clear hx2
                                          try clear c3
                                          try clear c4
                                          try clear c5
                                          try clear c6
                                          try clear p6
                                          try clear c8
                                          try clear c9
                                          try clear c9b0
                                          try clear c9b1
                                          try clear c9b2
                                          try clear c10
                                          try clear c10b0
                                          try clear c10b1
                                          try clear c10b2
                                          try clear c13
                                          try clear c13b0
                                          try clear c13b1
                                          try clear c13b2
                                          try clear c19
                                          try clear c19b0
                                          try clear c19b1
                                          try clear c19b2
                                          try clear c20
                                          try clear c20b0
                                          try clear c20b1
                                          try clear c21
                                          try clear c21b0
                                          try clear c21b1
                                          try clear c23
                                          try clear c23b0
                                          try clear c23b1
                                          try clear c24
                                          try clear c24b0
                                          try clear c24b1
                                          try clear c26
                                          try clear c29
                                          try clear c29b0
                                          try clear c29b1
                                          try clear c29b2
                                          try clear p29
                                          try clear q29
                                          try clear hx29
                                          try clear c31
                                          try clear c31b0
                                          try clear c31b1
                                          try clear c31b2
                                          try clear c32
                                          try clear c32b0
                                          try clear c32b1
                                          try clear c32b2
                                          try clear c33
                                          try clear c33b0
                                          try clear c33b1
                                          try clear c33b2
                                          try clear c34
                                          try clear c34b0
                                          try clear c34b1
                                          try clear c34b2
                                          try clear c35
                                          try clear c35b0
                                          try clear c35b1
                                          try clear c35b2
                                          try clear c36
                                          try clear c36b0
                                          try clear c36b1
                                          try clear c36b2
                                          try clear c37
                                          try clear c37b0
                                          try clear c37b1
                                          try clear c37b2
                                          try clear c40
                                          try clear c40b0
                                          try clear c40b1
                                          try clear c40b2
                                          try clear c43
                                          try clear c43b0
                                          try clear c43b1
                                          try clear c43b2
                                          try clear c44
                                          try clear c44b0
                                          try clear c44b1
                                          try clear c44b2
                                          try clear c47
                                          try clear c47b0
                                          try clear c48
                                          try clear c48b0
                                          try clear c57
                                          try clear c62
                                          try clear c62b0
                                          try clear c62b1
                                          try clear p64
                                          try clear hcz18_0
                                          try clear hcz18_1
                                          try clear hcz18_2
                                          try clear hcz22_0
                                          try clear hcz22_1
                                          try clear hcz22_2
                                          try clear hcz25_0
                                          try clear hcz25_1
                                          try clear hcz25_2
                                          try clear hcz58_0
                                          try clear hcz58_1
                                          try clear hcz58_2
                                          try clear hfz18_0
                                          try clear hfz18_1
                                          try clear hfz18_2
                                          try clear hfz22_0
                                          try clear hfz22_1
                                          try clear hfz22_2
                                          try clear hfz25_0
                                          try clear hfz25_1
                                          try clear hfz25_2
                                          try clear hfz58_0
                                          try clear hfz58_1
                                          try clear hfz58_2
                                          try clear hx298_0
                                          try clear p2
                                          try clear p298
                                          try clear p6
                                          try clear q298
                                          obtain ⟨kq, x110_48, rfl, HA, HJ48, BK284, BK294, HB⟩ := hcut
                                          cases kq with
                                          | zero => exact absurd HA.out (by simp [frankinglaw15_PathLimits.j2])
                                          | succ kj48 =>
                                            have H := HA.out
                                            clear HA
                                            simp only [frankinglaw15_PathLimits.j2] at H
                                            by_cases c65 : x110_48 = true
                                            · subst c65
                                              have H1 : (none) = some r := by rw [if_pos rfl] at H; exact H
                                              clear H
                                              have H := H1
                                              clear H1
                                              exact absurd H (by simp)
                                            · replace c65 := Bool.eq_false_iff.mpr c65
                                              subst c65
                                              have H1 : ((strings_Repeat.f (⟨#[44, 64, 120]⟩ : ByteArray) (wrap64 (19 + (ji46)))).bind fun t300 => (if 3 + t300.size ≤ 9223372036854775807 then (if ((⟨#[60, 64, 120]⟩ : ByteArray) ++ t300).size + 5 ≤ 9223372036854775807 then ((path_Parse.f kj48 (((⟨#[60, 64, 120]⟩ : ByteArray) ++ t300) ++ (⟨#[58, 97, 64, 98, 62]⟩ : ByteArray))).bind fun bt301 => (if ((bt301.2.2.2.2.2.2 == 0) == ((ji46) == 0)) = true then (if bt301.2.2.2.2.2.2 = 0 then (if (bt301.2.1.length : Int) = 20 then ((frankinglaw15_awake.f kj48).bind fun t311 => (some t311)) else (if bt301.2.2.2.2.2.2 = 3 then ((frankinglaw15_awake.f kj48).bind fun t312 => (some t312)) else (some false))) else (if bt301.2.2.2.2.2.2 = 3 then ((frankinglaw15_awake.f kj48).bind fun t313 => (some t313)) else (some false))) else (some false))) else (none)) else (none))) = some r := by rw [if_neg (show ¬ (false = true) by decide)] at H; exact H
                                              clear H
                                              have H := H1
                                              clear H1
                                              replace H := Option.bind_eq_some_iff.mp H
                                              obtain ⟨t300, A660, H⟩ := H
                                              replace H : (if 3 + t300.size ≤ 9223372036854775807 then (if ((⟨#[60, 64, 120]⟩ : ByteArray) ++ t300).size + 5 ≤ 9223372036854775807 then ((path_Parse.f kj48 (((⟨#[60, 64, 120]⟩ : ByteArray) ++ t300) ++ (⟨#[58, 97, 64, 98, 62]⟩ : ByteArray))).bind fun bt301 => (if ((bt301.2.2.2.2.2.2 == 0) == ((ji46) == 0)) = true then (if bt301.2.2.2.2.2.2 = 0 then (if (bt301.2.1.length : Int) = 20 then ((frankinglaw15_awake.f kj48).bind fun t311 => (some t311)) else (if bt301.2.2.2.2.2.2 = 3 then ((frankinglaw15_awake.f kj48).bind fun t312 => (some t312)) else (some false))) else (if bt301.2.2.2.2.2.2 = 3 then ((frankinglaw15_awake.f kj48).bind fun t313 => (some t313)) else (some false))) else (some false))) else (none)) else (none)) = some r := H
                                              have A66 := Aside0.mk A660
                                              clear A660
                                              by_cases c67 : 3 + t300.size ≤ 9223372036854775807
                                              · rw [if_pos c67] at H
                                                have c67b0 := eq_true c67
                                                have c67b1 : decide (3 + t300.size ≤ 9223372036854775807) = true := decide_eq_true c67
                                                try have c67b2 : (9223372036854775807 < 3 + t300.size) = False := eq_false (Nat.not_lt.2 c67)
                                                by_cases c68 : ((⟨#[60, 64, 120]⟩ : ByteArray) ++ t300).size + 5 ≤ 9223372036854775807
                                                · rw [if_pos c68] at H
                                                  have c68b0 := eq_true c68
                                                  have c68b1 : decide (((⟨#[60, 64, 120]⟩ : ByteArray) ++ t300).size + 5 ≤ 9223372036854775807) = true := decide_eq_true c68
                                                  try have c68b2 : (9223372036854775807 < ((⟨#[60, 64, 120]⟩ : ByteArray) ++ t300).size + 5) = False := eq_false (Nat.not_lt.2 c68)
                                                  try (have c68b3 := c68b2; simp only [ByteArray.size_append] at c68b3)
                                                  try have c68b4 : (9223372036854775807 < (3 + t300.size) + 5) = False := c68b3
                                                  replace H := Option.bind_eq_some_iff.mp H
                                                  obtain ⟨⟨t301, t302, t305, t306, t307, t308, t309⟩, A690, H⟩ := H
                                                  replace H : (if ((t309 == 0) == ((ji46) == 0)) = true then (if t309 = 0 then (if (t302.length : Int) = 20 then ((frankinglaw15_awake.f kj48).bind fun t311 => (some t311)) else (if t309 = 3 then ((frankinglaw15_awake.f kj48).bind fun t312 => (some t312)) else (some false))) else (if t309 = 3 then ((frankinglaw15_awake.f kj48).bind fun t313 => (some t313)) else (some false))) else (some false)) = some r := H
                                                  have A69 := Aside0.mk A690
                                                  clear A690
                                                  by_cases c70 : ((t309 == 0) == ((ji46) == 0)) = true
                                                  · rw [if_pos c70] at H
                                                    have c70b0 : ((t309 == 0) == ((ji46) == 0)) = true := c70
                                                    (try (have c70b1 : decide ((t309 == 0) = ((ji46) == 0)) = true := by simpa using c70))
                                                    (try (have c70b2 : ((t309 == 0) == ((ji46) == 0)) = true := by simpa using c70))
                                                    clear c70
                                                    by_cases c71 : t309 = 0
                                                    · rw [if_pos c71] at H
                                                      have c71b0 : (t309 == 0) = true := beq_iff_eq.mpr c71
                                                      have cj0 : (ji46 == 0) = true := by rw [c71b0] at c70b0; simpa using c70b0
                                                      have c71b1 : (t309 != 0) = false := bne_eq_false_iff_eq.mpr c71
                                                      clear c71
                                                      by_cases c72 : (t302.length : Int) = 20
                                                      · rw [if_pos c72] at H
                                                        have c72b0 : ((t302.length : Int) == 20) = true := beq_iff_eq.mpr c72
                                                        have c72b1 : ((t302.length : Int) != 20) = false := bne_eq_false_iff_eq.mpr c72
                                                        clear c72
                                                        replace H := Option.bind_eq_some_iff.mp H
                                                        obtain ⟨t311, A730, H⟩ := H
                                                        replace H : (some t311) = some r := H
                                                        have A73 := Aside0.mk A730
                                                        clear A730
                                                        obtain rfl := Option.some.inj H
                                                        go_wp2_with (first | ((with_reducible refine gate_callee (f := 8) rfl ?_); refine goesL_ (some 114) rfl rfl Tryd.func8 (by kernel_rfl) rfl #[.string (⟨#[44, 64, 120]⟩ : ByteArray), .int .i64 (wrap64 (19 + (ji46)))] rfl (by (try simp only [List.map_toArray, List.map_cons, List.map_nil]); first | done | (simp only [hji46]; rfl) | rfl | (simp only [List.length_drop, List.length_take]; rfl)) ?_; (with_reducible refine (strings_Repeat.calls (⟨#[44, 64, 120]⟩ : ByteArray) (wrap64 (19 + (ji46))) t300 _ A66.out).mono ?_); rintro e w74 ⟨rfl, hb⟩; refine ⟨_, rfl, ?_⟩; have n0_ := Aside0.mk (blk_below (g := gb284) (o := .cells #[.string t280, .string t281, .bool t282] 25 (0, 0)) (by (with_reducible repeat (first | refine blk_drewN ?_ _ | refine blk_drew ?_ | refine blk_alloc ?_ _)); exact BK284.out) hb); have n1_ := Aside0.mk (blk_below (g := gb294) (o := .cells #[.string t290, .string t291, .bool t292] 25 (0, 0)) (by (with_reducible repeat (first | refine blk_drewN ?_ _ | refine blk_drew ?_ | refine blk_alloc ?_ _)); exact BK294.out) hb); have n2_ := Aside0.mk (below_step (by repeat (first | (with_reducible first | exact HB.out | apply below_alloc | apply pw_below_drewN | apply below_drew1 | refine below_set ?_ GE284.out | refine below_set ?_ GE294.out) | exact HB.out)) hb); clear BK284; clear BK294; clear HB; have BK284 := n0_; have BK294 := n1_; have HB := n2_; clear n0_ n1_ n2_; (try clear hb); (try clear hb2); (try clear hk); (try clear hi)) | ((with_reducible refine gate_callee (f := 5) rfl ?_); refine goesL_ (some 117) rfl rfl Tryd.func5 (by kernel_rfl) rfl #[.string (((⟨#[60, 64, 120]⟩ : ByteArray) ++ t300) ++ (⟨#[58, 97, 64, 98, 62]⟩ : ByteArray))] rfl (by (try simp only [List.map_toArray, List.map_cons, List.map_nil]); first | done | rfl | (simp only [List.length_drop, List.length_take]; rfl)) ?_; (with_reducible refine (path_Parse.calls kj48 (((⟨#[60, 64, 120]⟩ : ByteArray) ++ t300) ++ (⟨#[58, 97, 64, 98, 62]⟩ : ByteArray)) t301 t302 t305 t306 t307 t308 t309 _ ?side1 A69.out).mono ?_); (case side1 => exact GlobalsOK.below HG.out (by repeat (first | (with_reducible first | exact HB.out | apply below_alloc | apply pw_below_drewN | apply below_drew1 | refine below_set ?_ GE284.out | refine below_set ?_ GE294.out) | exact HB.out))); rintro e w75 ⟨v303, rfl, ho0, hb⟩; refine ⟨_, rfl, ?_⟩; have n0_ := Aside0.mk (Kd.R_lower ho0 (below_size (by repeat (first | (with_reducible first | exact HB.out | apply below_alloc | apply pw_below_drewN | apply below_drew1 | refine below_set ?_ GE284.out | refine below_set ?_ GE294.out) | exact HB.out)))); have n1_ := Aside0.mk (blk_below (g := gb284) (o := .cells #[.string t280, .string t281, .bool t282] 25 (0, 0)) (by (with_reducible repeat (first | refine blk_drewN ?_ _ | refine blk_drew ?_ | refine blk_alloc ?_ _)); exact BK284.out) hb); have n2_ := Aside0.mk (blk_below (g := gb294) (o := .cells #[.string t290, .string t291, .bool t292] 25 (0, 0)) (by (with_reducible repeat (first | refine blk_drewN ?_ _ | refine blk_drew ?_ | refine blk_alloc ?_ _)); exact BK294.out) hb); have n3_ := Aside0.mk (below_step (by repeat (first | (with_reducible first | exact HB.out | apply below_alloc | apply pw_below_drewN | apply below_drew1 | refine below_set ?_ GE284.out | refine below_set ?_ GE294.out) | exact HB.out)) hb); clear BK284; clear BK294; clear HB; have HO304 := n0_; have BK284 := n1_; have BK294 := n2_; have HB := n3_; clear n0_ n1_ n2_ n3_; (try clear hb); (try clear hb2); (try clear hk); (try clear hi); (try clear ho0)) | ((with_reducible refine gate_dst (N := 15) rfl ?_); (try (refine gate_guard (by rfl) ?_; dsimp only)); refine box_event ?hg (N := 15) ?hd (cs := #[.bool false, .slice none 0 0, .string (⟨#[]⟩ : ByteArray), .string (⟨#[]⟩ : ByteArray), .bool false]) (t := 27) ?hr ?_; (case hd => rfl); (case hg => rfl); (case hr => first | (go_simp; done) | (go_simp; rfl)); intro gb310 hg w76 hbox hb; have n0_ := Aside0.mk (Kd.R_below (by (with_reducible repeat (first | apply Kd.R_alloc | apply Kd.R_drewN | apply Kd.R_drew)); exact HO304.out) hb); have n1_ := Aside0.mk (blk_below (g := gb284) (o := .cells #[.string t280, .string t281, .bool t282] 25 (0, 0)) (by (with_reducible repeat (first | refine blk_drewN ?_ _ | refine blk_drew ?_ | refine blk_alloc ?_ _)); exact BK284.out) hb); have n2_ := Aside0.mk (blk_below (g := gb294) (o := .cells #[.string t290, .string t291, .bool t292] 25 (0, 0)) (by (with_reducible repeat (first | refine blk_drewN ?_ _ | refine blk_drew ?_ | refine blk_alloc ?_ _)); exact BK294.out) hb); have n3_ := Aside0.mk (below_step (by repeat (first | (with_reducible first | exact HB.out | apply below_alloc | apply pw_below_drewN | apply below_drew1 | refine below_set ?_ GE284.out | refine below_set ?_ GE294.out) | exact HB.out)) hb); have n4_ := Aside0.mk (hbox); have n5_ := Aside0.mk ((by rw [hg]; exact (below_size (by repeat (first | (with_reducible first | exact HB.out | apply below_alloc | apply pw_below_drewN | apply below_drew1 | refine below_set ?_ GE284.out | refine below_set ?_ GE294.out) | exact HB.out))) : w.heap.size ≤ gb310)); have n6_ := Aside0.mk ((by rw [hg]; exact (below_size (by repeat (first | (with_reducible first | exact HB.out | apply below_alloc | apply pw_below_drewN | apply below_drew1 | refine below_set ?_ GE284.out | refine below_set ?_ GE294.out) | exact HB.out))) : w.heap.size ≤ gb310)); have n7_ := Aside0.mk ((by rw [hg]; exact Nat.ne_of_lt (blk_lt (g := gb284) (o := .cells #[.string t280, .string t281, .bool t282] 25 (0, 0)) (by (with_reducible repeat (first | refine blk_drewN ?_ _ | refine blk_drew ?_ | refine blk_alloc ?_ _)); exact BK284.out)) : gb284 ≠ gb310)); have n8_ := Aside0.mk ((by rw [hg]; exact Nat.ne_of_gt (blk_lt (g := gb284) (o := .cells #[.string t280, .string t281, .bool t282] 25 (0, 0)) (by (with_reducible repeat (first | refine blk_drewN ?_ _ | refine blk_drew ?_ | refine blk_alloc ?_ _)); exact BK284.out)) : gb310 ≠ gb284)); have n9_ := Aside0.mk ((by rw [hg]; exact Nat.ne_of_lt (blk_lt (g := gb294) (o := .cells #[.string t290, .string t291, .bool t292] 25 (0, 0)) (by (with_reducible repeat (first | refine blk_drewN ?_ _ | refine blk_drew ?_ | refine blk_alloc ?_ _)); exact BK294.out)) : gb294 ≠ gb310)); have n10_ := Aside0.mk ((by rw [hg]; exact Nat.ne_of_gt (blk_lt (g := gb294) (o := .cells #[.string t290, .string t291, .bool t292] 25 (0, 0)) (by (with_reducible repeat (first | refine blk_drewN ?_ _ | refine blk_drew ?_ | refine blk_alloc ?_ _)); exact BK294.out)) : gb310 ≠ gb294)); clear HO304; clear BK284; clear BK294; clear HB; have HO304 := n0_; have BK284 := n1_; have BK294 := n2_; have HB := n3_; have BK310 := n4_; have GW310 := n5_; have GE310 := n6_; have NB284_310 := n7_; have NB310_284 := n8_; have NB294_310 := n9_; have NB310_294 := n10_; clear n0_ n1_ n2_ n3_ n4_ n5_ n6_ n7_ n8_ n9_ n10_; clear hb hbox hg; have hnb77 := NB310_284.out; have hnc77 := NB284_310.out; have hnb78 := NB310_294.out; have hnc78 := NB294_310.out; have hcz79_0 : w76.cell? ⟨gb310, 0, none⟩ = some (.bool false) := (blk_cell BK310.out 0).trans rfl; have hcz79_1 : w76.cell? ⟨gb310, 1, none⟩ = some (.slice none 0 0) := (blk_cell BK310.out 1).trans rfl; have hcz79_2 : w76.cell? ⟨gb310, 2, none⟩ = some (.string (⟨#[]⟩ : ByteArray)) := (blk_cell BK310.out 2).trans rfl; have hcz79_3 : w76.cell? ⟨gb310, 3, none⟩ = some (.string (⟨#[]⟩ : ByteArray)) := (blk_cell BK310.out 3).trans rfl; have hcz79_4 : w76.cell? ⟨gb310, 4, none⟩ = some (.bool false) := (blk_cell BK310.out 4).trans rfl; have hfz79_0 := blk_frozen BK310.out 0; have hfz79_1 := blk_frozen BK310.out 1; have hfz79_2 := blk_frozen BK310.out 2; have hfz79_3 := blk_frozen BK310.out 3; have hfz79_4 := blk_frozen BK310.out 4; obtain ⟨Ao80, co80, eo80⟩ := Kd.R_slice HO304.out; subst eo80) | (go_at_call 6; (with_reducible refine (frankinglaw15_awake.calls kj48  t311 _ ?side1 A73.out).mono ?_); (case side1 => exact GlobalsOK.below HG.out (by repeat (first | (with_reducible first | exact HB.out | apply below_alloc | apply pw_below_drewN | apply below_drew1 | refine below_set ?_ GE284.out | refine below_set ?_ GE294.out | refine below_set ?_ GE310.out) | exact HB.out))); rintro e w81 ⟨rfl, hb⟩; have n0_ := Aside0.mk (Kd.R_below (by (with_reducible repeat (first | apply Kd.R_alloc | apply Kd.R_drewN | apply Kd.R_drew)); exact (Kd.R_mono (Kd.R_far (p := ⟨gb310, 4, none⟩) (Kd.R_far (p := ⟨gb310, 3, none⟩) (Kd.R_far (p := ⟨gb310, 2, none⟩) (Kd.R_far (p := ⟨gb310, 1, none⟩) (Kd.R_far (p := ⟨gb310, 0, none⟩) (Kd.R_types HO304.out BK310.out (by decide)) (fun _ hk => hk.2) (.bool t301)) (fun _ hk => hk.2) (.slice Ao80 t302.length co80)) (fun _ hk => hk.2) (.string t305)) (fun _ hk => hk.2) (.string t306)) (fun _ hk => hk.2) (.bool t307)) (fun _ h_ => h_.1))) hb); have n1_ := Aside0.mk (blk_below (g := gb284) (o := .cells #[.string t280, .string t281, .bool t282] 25 (0, 0)) (by (with_reducible repeat (first | refine blk_drewN ?_ _ | refine blk_drew ?_ | refine blk_alloc ?_ _)); refine blk_far ?_ NB284_310.out _; (with_reducible repeat (first | refine blk_drewN ?_ _ | refine blk_drew ?_ | refine blk_alloc ?_ _)); refine blk_far ?_ NB284_310.out _; (with_reducible repeat (first | refine blk_drewN ?_ _ | refine blk_drew ?_ | refine blk_alloc ?_ _)); refine blk_far ?_ NB284_310.out _; (with_reducible repeat (first | refine blk_drewN ?_ _ | refine blk_drew ?_ | refine blk_alloc ?_ _)); refine blk_far ?_ NB284_310.out _; (with_reducible repeat (first | refine blk_drewN ?_ _ | refine blk_drew ?_ | refine blk_alloc ?_ _)); refine blk_far ?_ NB284_310.out _; (with_reducible repeat (first | refine blk_drewN ?_ _ | refine blk_drew ?_ | refine blk_alloc ?_ _)); exact BK284.out) hb); have n2_ := Aside0.mk (blk_below (g := gb294) (o := .cells #[.string t290, .string t291, .bool t292] 25 (0, 0)) (by (with_reducible repeat (first | refine blk_drewN ?_ _ | refine blk_drew ?_ | refine blk_alloc ?_ _)); refine blk_far ?_ NB294_310.out _; (with_reducible repeat (first | refine blk_drewN ?_ _ | refine blk_drew ?_ | refine blk_alloc ?_ _)); refine blk_far ?_ NB294_310.out _; (with_reducible repeat (first | refine blk_drewN ?_ _ | refine blk_drew ?_ | refine blk_alloc ?_ _)); refine blk_far ?_ NB294_310.out _; (with_reducible repeat (first | refine blk_drewN ?_ _ | refine blk_drew ?_ | refine blk_alloc ?_ _)); refine blk_far ?_ NB294_310.out _; (with_reducible repeat (first | refine blk_drewN ?_ _ | refine blk_drew ?_ | refine blk_alloc ?_ _)); refine blk_far ?_ NB294_310.out _; (with_reducible repeat (first | refine blk_drewN ?_ _ | refine blk_drew ?_ | refine blk_alloc ?_ _)); exact BK294.out) hb); have n3_ := Aside0.mk (blk_below (g := gb310) (o := .cells #[.bool t301, .slice Ao80 t302.length co80, .string t305, .string t306, .bool t307] 27 (0, 0)) (by (with_reducible repeat (first | refine blk_drewN ?_ _ | refine blk_drew ?_ | refine blk_alloc ?_ _)); refine blk_put (cs := #[.bool t301, .slice Ao80 t302.length co80, .string t305, .string t306, .bool false]) ?_ 4 _ rfl; (with_reducible repeat (first | refine blk_drewN ?_ _ | refine blk_drew ?_ | refine blk_alloc ?_ _)); refine blk_put (cs := #[.bool t301, .slice Ao80 t302.length co80, .string t305, .string (⟨#[]⟩ : ByteArray), .bool false]) ?_ 3 _ rfl; (with_reducible repeat (first | refine blk_drewN ?_ _ | refine blk_drew ?_ | refine blk_alloc ?_ _)); refine blk_put (cs := #[.bool t301, .slice Ao80 t302.length co80, .string (⟨#[]⟩ : ByteArray), .string (⟨#[]⟩ : ByteArray), .bool false]) ?_ 2 _ rfl; (with_reducible repeat (first | refine blk_drewN ?_ _ | refine blk_drew ?_ | refine blk_alloc ?_ _)); refine blk_put (cs := #[.bool t301, .slice none 0 0, .string (⟨#[]⟩ : ByteArray), .string (⟨#[]⟩ : ByteArray), .bool false]) ?_ 1 _ rfl; (with_reducible repeat (first | refine blk_drewN ?_ _ | refine blk_drew ?_ | refine blk_alloc ?_ _)); refine blk_put (cs := #[.bool false, .slice none 0 0, .string (⟨#[]⟩ : ByteArray), .string (⟨#[]⟩ : ByteArray), .bool false]) ?_ 0 _ rfl; (with_reducible repeat (first | refine blk_drewN ?_ _ | refine blk_drew ?_ | refine blk_alloc ?_ _)); exact BK310.out) hb); have n4_ := Aside0.mk (below_step (by repeat (first | (with_reducible first | exact HB.out | apply below_alloc | apply pw_below_drewN | apply below_drew1 | refine below_set ?_ GE284.out | refine below_set ?_ GE294.out | refine below_set ?_ GE310.out) | exact HB.out)) hb); clear HO304; clear BK284; clear BK294; clear BK310; clear HB; have HO304 := n0_; have BK284 := n1_; have BK294 := n2_; have BK310 := n3_; have HB := n4_; clear n0_ n1_ n2_ n3_ n4_; (try clear hb); (try clear hb2); (try clear hk); (try clear hi)))
                                                        go_ret
                                                        exact ⟨by first | rfl | (simp [errW_none, errW_some] <;> rfl) | (simp only [← hji38, ← hji41, ← hji46]; first | rfl | (simp [errW_none, errW_some] <;> rfl)) | (simp [*, errW_none, errW_some] <;> rfl), by repeat (first | (with_reducible first | exact HB.out | apply below_alloc | apply pw_below_drewN | apply below_drew1 | refine below_set ?_ GE284.out | refine below_set ?_ GE294.out | refine below_set ?_ GE310.out) | exact HB.out)⟩
                                                      · rw [if_neg c72] at H
                                                        have c72b0 : ((t302.length : Int) == 20) = false := beq_eq_false_iff_ne.mpr c72
                                                        have c72b1 : ((t302.length : Int) != 20) = true := bne_iff_ne.mpr c72
                                                        by_cases c82 : t309 = 3
                                                        · rw [if_pos c82] at H
                                                          have c82b0 : (t309 == 3) = true := beq_iff_eq.mpr c82
                                                          have c82b1 : (t309 != 3) = false := bne_eq_false_iff_eq.mpr c82
                                                          clear c82
                                                          replace H := Option.bind_eq_some_iff.mp H
                                                          obtain ⟨t312, A830, H⟩ := H
                                                          replace H : (some t312) = some r := H
                                                          have A83 := Aside0.mk A830
                                                          clear A830
                                                          obtain rfl := Option.some.inj H
                                                          go_wp2_with (first | ((with_reducible refine gate_callee (f := 8) rfl ?_); refine goesL_ (some 114) rfl rfl Tryd.func8 (by kernel_rfl) rfl #[.string (⟨#[44, 64, 120]⟩ : ByteArray), .int .i64 (wrap64 (19 + (ji46)))] rfl (by (try simp only [List.map_toArray, List.map_cons, List.map_nil]); first | done | (simp only [hji46]; rfl) | rfl | (simp only [List.length_drop, List.length_take]; rfl)) ?_; (with_reducible refine (strings_Repeat.calls (⟨#[44, 64, 120]⟩ : ByteArray) (wrap64 (19 + (ji46))) t300 _ A66.out).mono ?_); rintro e w84 ⟨rfl, hb⟩; refine ⟨_, rfl, ?_⟩; have n0_ := Aside0.mk (blk_below (g := gb284) (o := .cells #[.string t280, .string t281, .bool t282] 25 (0, 0)) (by (with_reducible repeat (first | refine blk_drewN ?_ _ | refine blk_drew ?_ | refine blk_alloc ?_ _)); exact BK284.out) hb); have n1_ := Aside0.mk (blk_below (g := gb294) (o := .cells #[.string t290, .string t291, .bool t292] 25 (0, 0)) (by (with_reducible repeat (first | refine blk_drewN ?_ _ | refine blk_drew ?_ | refine blk_alloc ?_ _)); exact BK294.out) hb); have n2_ := Aside0.mk (below_step (by repeat (first | (with_reducible first | exact HB.out | apply below_alloc | apply pw_below_drewN | apply below_drew1 | refine below_set ?_ GE284.out | refine below_set ?_ GE294.out) | exact HB.out)) hb); clear BK284; clear BK294; clear HB; have BK284 := n0_; have BK294 := n1_; have HB := n2_; clear n0_ n1_ n2_; (try clear hb); (try clear hb2); (try clear hk); (try clear hi)) | ((with_reducible refine gate_callee (f := 5) rfl ?_); refine goesL_ (some 117) rfl rfl Tryd.func5 (by kernel_rfl) rfl #[.string (((⟨#[60, 64, 120]⟩ : ByteArray) ++ t300) ++ (⟨#[58, 97, 64, 98, 62]⟩ : ByteArray))] rfl (by (try simp only [List.map_toArray, List.map_cons, List.map_nil]); first | done | rfl | (simp only [List.length_drop, List.length_take]; rfl)) ?_; (with_reducible refine (path_Parse.calls kj48 (((⟨#[60, 64, 120]⟩ : ByteArray) ++ t300) ++ (⟨#[58, 97, 64, 98, 62]⟩ : ByteArray)) t301 t302 t305 t306 t307 t308 t309 _ ?side1 A69.out).mono ?_); (case side1 => exact GlobalsOK.below HG.out (by repeat (first | (with_reducible first | exact HB.out | apply below_alloc | apply pw_below_drewN | apply below_drew1 | refine below_set ?_ GE284.out | refine below_set ?_ GE294.out) | exact HB.out))); rintro e w85 ⟨v303, rfl, ho0, hb⟩; refine ⟨_, rfl, ?_⟩; have n0_ := Aside0.mk (Kd.R_lower ho0 (below_size (by repeat (first | (with_reducible first | exact HB.out | apply below_alloc | apply pw_below_drewN | apply below_drew1 | refine below_set ?_ GE284.out | refine below_set ?_ GE294.out) | exact HB.out)))); have n1_ := Aside0.mk (blk_below (g := gb284) (o := .cells #[.string t280, .string t281, .bool t282] 25 (0, 0)) (by (with_reducible repeat (first | refine blk_drewN ?_ _ | refine blk_drew ?_ | refine blk_alloc ?_ _)); exact BK284.out) hb); have n2_ := Aside0.mk (blk_below (g := gb294) (o := .cells #[.string t290, .string t291, .bool t292] 25 (0, 0)) (by (with_reducible repeat (first | refine blk_drewN ?_ _ | refine blk_drew ?_ | refine blk_alloc ?_ _)); exact BK294.out) hb); have n3_ := Aside0.mk (below_step (by repeat (first | (with_reducible first | exact HB.out | apply below_alloc | apply pw_below_drewN | apply below_drew1 | refine below_set ?_ GE284.out | refine below_set ?_ GE294.out) | exact HB.out)) hb); clear BK284; clear BK294; clear HB; have HO304 := n0_; have BK284 := n1_; have BK294 := n2_; have HB := n3_; clear n0_ n1_ n2_ n3_; (try clear hb); (try clear hb2); (try clear hk); (try clear hi); (try clear ho0)) | ((with_reducible refine gate_dst (N := 15) rfl ?_); (try (refine gate_guard (by rfl) ?_; dsimp only)); refine box_event ?hg (N := 15) ?hd (cs := #[.bool false, .slice none 0 0, .string (⟨#[]⟩ : ByteArray), .string (⟨#[]⟩ : ByteArray), .bool false]) (t := 27) ?hr ?_; (case hd => rfl); (case hg => rfl); (case hr => first | (go_simp; done) | (go_simp; rfl)); intro gb310 hg w86 hbox hb; have n0_ := Aside0.mk (Kd.R_below (by (with_reducible repeat (first | apply Kd.R_alloc | apply Kd.R_drewN | apply Kd.R_drew)); exact HO304.out) hb); have n1_ := Aside0.mk (blk_below (g := gb284) (o := .cells #[.string t280, .string t281, .bool t282] 25 (0, 0)) (by (with_reducible repeat (first | refine blk_drewN ?_ _ | refine blk_drew ?_ | refine blk_alloc ?_ _)); exact BK284.out) hb); have n2_ := Aside0.mk (blk_below (g := gb294) (o := .cells #[.string t290, .string t291, .bool t292] 25 (0, 0)) (by (with_reducible repeat (first | refine blk_drewN ?_ _ | refine blk_drew ?_ | refine blk_alloc ?_ _)); exact BK294.out) hb); have n3_ := Aside0.mk (below_step (by repeat (first | (with_reducible first | exact HB.out | apply below_alloc | apply pw_below_drewN | apply below_drew1 | refine below_set ?_ GE284.out | refine below_set ?_ GE294.out) | exact HB.out)) hb); have n4_ := Aside0.mk (hbox); have n5_ := Aside0.mk ((by rw [hg]; exact (below_size (by repeat (first | (with_reducible first | exact HB.out | apply below_alloc | apply pw_below_drewN | apply below_drew1 | refine below_set ?_ GE284.out | refine below_set ?_ GE294.out) | exact HB.out))) : w.heap.size ≤ gb310)); have n6_ := Aside0.mk ((by rw [hg]; exact (below_size (by repeat (first | (with_reducible first | exact HB.out | apply below_alloc | apply pw_below_drewN | apply below_drew1 | refine below_set ?_ GE284.out | refine below_set ?_ GE294.out) | exact HB.out))) : w.heap.size ≤ gb310)); have n7_ := Aside0.mk ((by rw [hg]; exact Nat.ne_of_lt (blk_lt (g := gb284) (o := .cells #[.string t280, .string t281, .bool t282] 25 (0, 0)) (by (with_reducible repeat (first | refine blk_drewN ?_ _ | refine blk_drew ?_ | refine blk_alloc ?_ _)); exact BK284.out)) : gb284 ≠ gb310)); have n8_ := Aside0.mk ((by rw [hg]; exact Nat.ne_of_gt (blk_lt (g := gb284) (o := .cells #[.string t280, .string t281, .bool t282] 25 (0, 0)) (by (with_reducible repeat (first | refine blk_drewN ?_ _ | refine blk_drew ?_ | refine blk_alloc ?_ _)); exact BK284.out)) : gb310 ≠ gb284)); have n9_ := Aside0.mk ((by rw [hg]; exact Nat.ne_of_lt (blk_lt (g := gb294) (o := .cells #[.string t290, .string t291, .bool t292] 25 (0, 0)) (by (with_reducible repeat (first | refine blk_drewN ?_ _ | refine blk_drew ?_ | refine blk_alloc ?_ _)); exact BK294.out)) : gb294 ≠ gb310)); have n10_ := Aside0.mk ((by rw [hg]; exact Nat.ne_of_gt (blk_lt (g := gb294) (o := .cells #[.string t290, .string t291, .bool t292] 25 (0, 0)) (by (with_reducible repeat (first | refine blk_drewN ?_ _ | refine blk_drew ?_ | refine blk_alloc ?_ _)); exact BK294.out)) : gb310 ≠ gb294)); clear HO304; clear BK284; clear BK294; clear HB; have HO304 := n0_; have BK284 := n1_; have BK294 := n2_; have HB := n3_; have BK310 := n4_; have GW310 := n5_; have GE310 := n6_; have NB284_310 := n7_; have NB310_284 := n8_; have NB294_310 := n9_; have NB310_294 := n10_; clear n0_ n1_ n2_ n3_ n4_ n5_ n6_ n7_ n8_ n9_ n10_; clear hb hbox hg; have hnb87 := NB310_284.out; have hnc87 := NB284_310.out; have hnb88 := NB310_294.out; have hnc88 := NB294_310.out; have hcz89_0 : w86.cell? ⟨gb310, 0, none⟩ = some (.bool false) := (blk_cell BK310.out 0).trans rfl; have hcz89_1 : w86.cell? ⟨gb310, 1, none⟩ = some (.slice none 0 0) := (blk_cell BK310.out 1).trans rfl; have hcz89_2 : w86.cell? ⟨gb310, 2, none⟩ = some (.string (⟨#[]⟩ : ByteArray)) := (blk_cell BK310.out 2).trans rfl; have hcz89_3 : w86.cell? ⟨gb310, 3, none⟩ = some (.string (⟨#[]⟩ : ByteArray)) := (blk_cell BK310.out 3).trans rfl; have hcz89_4 : w86.cell? ⟨gb310, 4, none⟩ = some (.bool false) := (blk_cell BK310.out 4).trans rfl; have hfz89_0 := blk_frozen BK310.out 0; have hfz89_1 := blk_frozen BK310.out 1; have hfz89_2 := blk_frozen BK310.out 2; have hfz89_3 := blk_frozen BK310.out 3; have hfz89_4 := blk_frozen BK310.out 4; obtain ⟨Ao90, co90, eo90⟩ := Kd.R_slice HO304.out; subst eo90) | (go_at_call 6; (with_reducible refine (frankinglaw15_awake.calls kj48  t312 _ ?side1 A83.out).mono ?_); (case side1 => exact GlobalsOK.below HG.out (by repeat (first | (with_reducible first | exact HB.out | apply below_alloc | apply pw_below_drewN | apply below_drew1 | refine below_set ?_ GE284.out | refine below_set ?_ GE294.out | refine below_set ?_ GE310.out) | exact HB.out))); rintro e w91 ⟨rfl, hb⟩; have n0_ := Aside0.mk (Kd.R_below (by (with_reducible repeat (first | apply Kd.R_alloc | apply Kd.R_drewN | apply Kd.R_drew)); exact (Kd.R_mono (Kd.R_far (p := ⟨gb310, 4, none⟩) (Kd.R_far (p := ⟨gb310, 3, none⟩) (Kd.R_far (p := ⟨gb310, 2, none⟩) (Kd.R_far (p := ⟨gb310, 1, none⟩) (Kd.R_far (p := ⟨gb310, 0, none⟩) (Kd.R_types HO304.out BK310.out (by decide)) (fun _ hk => hk.2) (.bool t301)) (fun _ hk => hk.2) (.slice Ao90 t302.length co90)) (fun _ hk => hk.2) (.string t305)) (fun _ hk => hk.2) (.string t306)) (fun _ hk => hk.2) (.bool t307)) (fun _ h_ => h_.1))) hb); have n1_ := Aside0.mk (blk_below (g := gb284) (o := .cells #[.string t280, .string t281, .bool t282] 25 (0, 0)) (by (with_reducible repeat (first | refine blk_drewN ?_ _ | refine blk_drew ?_ | refine blk_alloc ?_ _)); refine blk_far ?_ NB284_310.out _; (with_reducible repeat (first | refine blk_drewN ?_ _ | refine blk_drew ?_ | refine blk_alloc ?_ _)); refine blk_far ?_ NB284_310.out _; (with_reducible repeat (first | refine blk_drewN ?_ _ | refine blk_drew ?_ | refine blk_alloc ?_ _)); refine blk_far ?_ NB284_310.out _; (with_reducible repeat (first | refine blk_drewN ?_ _ | refine blk_drew ?_ | refine blk_alloc ?_ _)); refine blk_far ?_ NB284_310.out _; (with_reducible repeat (first | refine blk_drewN ?_ _ | refine blk_drew ?_ | refine blk_alloc ?_ _)); refine blk_far ?_ NB284_310.out _; (with_reducible repeat (first | refine blk_drewN ?_ _ | refine blk_drew ?_ | refine blk_alloc ?_ _)); exact BK284.out) hb); have n2_ := Aside0.mk (blk_below (g := gb294) (o := .cells #[.string t290, .string t291, .bool t292] 25 (0, 0)) (by (with_reducible repeat (first | refine blk_drewN ?_ _ | refine blk_drew ?_ | refine blk_alloc ?_ _)); refine blk_far ?_ NB294_310.out _; (with_reducible repeat (first | refine blk_drewN ?_ _ | refine blk_drew ?_ | refine blk_alloc ?_ _)); refine blk_far ?_ NB294_310.out _; (with_reducible repeat (first | refine blk_drewN ?_ _ | refine blk_drew ?_ | refine blk_alloc ?_ _)); refine blk_far ?_ NB294_310.out _; (with_reducible repeat (first | refine blk_drewN ?_ _ | refine blk_drew ?_ | refine blk_alloc ?_ _)); refine blk_far ?_ NB294_310.out _; (with_reducible repeat (first | refine blk_drewN ?_ _ | refine blk_drew ?_ | refine blk_alloc ?_ _)); refine blk_far ?_ NB294_310.out _; (with_reducible repeat (first | refine blk_drewN ?_ _ | refine blk_drew ?_ | refine blk_alloc ?_ _)); exact BK294.out) hb); have n3_ := Aside0.mk (blk_below (g := gb310) (o := .cells #[.bool t301, .slice Ao90 t302.length co90, .string t305, .string t306, .bool t307] 27 (0, 0)) (by (with_reducible repeat (first | refine blk_drewN ?_ _ | refine blk_drew ?_ | refine blk_alloc ?_ _)); refine blk_put (cs := #[.bool t301, .slice Ao90 t302.length co90, .string t305, .string t306, .bool false]) ?_ 4 _ rfl; (with_reducible repeat (first | refine blk_drewN ?_ _ | refine blk_drew ?_ | refine blk_alloc ?_ _)); refine blk_put (cs := #[.bool t301, .slice Ao90 t302.length co90, .string t305, .string (⟨#[]⟩ : ByteArray), .bool false]) ?_ 3 _ rfl; (with_reducible repeat (first | refine blk_drewN ?_ _ | refine blk_drew ?_ | refine blk_alloc ?_ _)); refine blk_put (cs := #[.bool t301, .slice Ao90 t302.length co90, .string (⟨#[]⟩ : ByteArray), .string (⟨#[]⟩ : ByteArray), .bool false]) ?_ 2 _ rfl; (with_reducible repeat (first | refine blk_drewN ?_ _ | refine blk_drew ?_ | refine blk_alloc ?_ _)); refine blk_put (cs := #[.bool t301, .slice none 0 0, .string (⟨#[]⟩ : ByteArray), .string (⟨#[]⟩ : ByteArray), .bool false]) ?_ 1 _ rfl; (with_reducible repeat (first | refine blk_drewN ?_ _ | refine blk_drew ?_ | refine blk_alloc ?_ _)); refine blk_put (cs := #[.bool false, .slice none 0 0, .string (⟨#[]⟩ : ByteArray), .string (⟨#[]⟩ : ByteArray), .bool false]) ?_ 0 _ rfl; (with_reducible repeat (first | refine blk_drewN ?_ _ | refine blk_drew ?_ | refine blk_alloc ?_ _)); exact BK310.out) hb); have n4_ := Aside0.mk (below_step (by repeat (first | (with_reducible first | exact HB.out | apply below_alloc | apply pw_below_drewN | apply below_drew1 | refine below_set ?_ GE284.out | refine below_set ?_ GE294.out | refine below_set ?_ GE310.out) | exact HB.out)) hb); clear HO304; clear BK284; clear BK294; clear BK310; clear HB; have HO304 := n0_; have BK284 := n1_; have BK294 := n2_; have BK310 := n3_; have HB := n4_; clear n0_ n1_ n2_ n3_ n4_; (try clear hb); (try clear hb2); (try clear hk); (try clear hi)))
                                                          go_ret
                                                          exact ⟨by first | rfl | (simp [errW_none, errW_some] <;> rfl) | (simp only [← hji38, ← hji41, ← hji46]; first | rfl | (simp [errW_none, errW_some] <;> rfl)) | (simp [*, errW_none, errW_some] <;> rfl), by repeat (first | (with_reducible first | exact HB.out | apply below_alloc | apply pw_below_drewN | apply below_drew1 | refine below_set ?_ GE284.out | refine below_set ?_ GE294.out | refine below_set ?_ GE310.out) | exact HB.out)⟩
                                                        · rw [if_neg c82] at H
                                                          have c82b0 : (t309 == 3) = false := beq_eq_false_iff_ne.mpr c82
                                                          have c82b1 : (t309 != 3) = true := bne_iff_ne.mpr c82
                                                          obtain rfl := Option.some.inj H
                                                          go_wp2_with (first | ((with_reducible refine gate_callee (f := 8) rfl ?_); refine goesL_ (some 114) rfl rfl Tryd.func8 (by kernel_rfl) rfl #[.string (⟨#[44, 64, 120]⟩ : ByteArray), .int .i64 (wrap64 (19 + (ji46)))] rfl (by (try simp only [List.map_toArray, List.map_cons, List.map_nil]); first | done | (simp only [hji46]; rfl) | rfl | (simp only [List.length_drop, List.length_take]; rfl)) ?_; (with_reducible refine (strings_Repeat.calls (⟨#[44, 64, 120]⟩ : ByteArray) (wrap64 (19 + (ji46))) t300 _ A66.out).mono ?_); rintro e w92 ⟨rfl, hb⟩; refine ⟨_, rfl, ?_⟩; have n0_ := Aside0.mk (blk_below (g := gb284) (o := .cells #[.string t280, .string t281, .bool t282] 25 (0, 0)) (by (with_reducible repeat (first | refine blk_drewN ?_ _ | refine blk_drew ?_ | refine blk_alloc ?_ _)); exact BK284.out) hb); have n1_ := Aside0.mk (blk_below (g := gb294) (o := .cells #[.string t290, .string t291, .bool t292] 25 (0, 0)) (by (with_reducible repeat (first | refine blk_drewN ?_ _ | refine blk_drew ?_ | refine blk_alloc ?_ _)); exact BK294.out) hb); have n2_ := Aside0.mk (below_step (by repeat (first | (with_reducible first | exact HB.out | apply below_alloc | apply pw_below_drewN | apply below_drew1 | refine below_set ?_ GE284.out | refine below_set ?_ GE294.out) | exact HB.out)) hb); clear BK284; clear BK294; clear HB; have BK284 := n0_; have BK294 := n1_; have HB := n2_; clear n0_ n1_ n2_; (try clear hb); (try clear hb2); (try clear hk); (try clear hi)) | ((with_reducible refine gate_callee (f := 5) rfl ?_); refine goesL_ (some 117) rfl rfl Tryd.func5 (by kernel_rfl) rfl #[.string (((⟨#[60, 64, 120]⟩ : ByteArray) ++ t300) ++ (⟨#[58, 97, 64, 98, 62]⟩ : ByteArray))] rfl (by (try simp only [List.map_toArray, List.map_cons, List.map_nil]); first | done | rfl | (simp only [List.length_drop, List.length_take]; rfl)) ?_; (with_reducible refine (path_Parse.calls kj48 (((⟨#[60, 64, 120]⟩ : ByteArray) ++ t300) ++ (⟨#[58, 97, 64, 98, 62]⟩ : ByteArray)) t301 t302 t305 t306 t307 t308 t309 _ ?side1 A69.out).mono ?_); (case side1 => exact GlobalsOK.below HG.out (by repeat (first | (with_reducible first | exact HB.out | apply below_alloc | apply pw_below_drewN | apply below_drew1 | refine below_set ?_ GE284.out | refine below_set ?_ GE294.out) | exact HB.out))); rintro e w93 ⟨v303, rfl, ho0, hb⟩; refine ⟨_, rfl, ?_⟩; have n0_ := Aside0.mk (Kd.R_lower ho0 (below_size (by repeat (first | (with_reducible first | exact HB.out | apply below_alloc | apply pw_below_drewN | apply below_drew1 | refine below_set ?_ GE284.out | refine below_set ?_ GE294.out) | exact HB.out)))); have n1_ := Aside0.mk (blk_below (g := gb284) (o := .cells #[.string t280, .string t281, .bool t282] 25 (0, 0)) (by (with_reducible repeat (first | refine blk_drewN ?_ _ | refine blk_drew ?_ | refine blk_alloc ?_ _)); exact BK284.out) hb); have n2_ := Aside0.mk (blk_below (g := gb294) (o := .cells #[.string t290, .string t291, .bool t292] 25 (0, 0)) (by (with_reducible repeat (first | refine blk_drewN ?_ _ | refine blk_drew ?_ | refine blk_alloc ?_ _)); exact BK294.out) hb); have n3_ := Aside0.mk (below_step (by repeat (first | (with_reducible first | exact HB.out | apply below_alloc | apply pw_below_drewN | apply below_drew1 | refine below_set ?_ GE284.out | refine below_set ?_ GE294.out) | exact HB.out)) hb); clear BK284; clear BK294; clear HB; have HO304 := n0_; have BK284 := n1_; have BK294 := n2_; have HB := n3_; clear n0_ n1_ n2_ n3_; (try clear hb); (try clear hb2); (try clear hk); (try clear hi); (try clear ho0)) | ((with_reducible refine gate_dst (N := 15) rfl ?_); (try (refine gate_guard (by rfl) ?_; dsimp only)); refine box_event ?hg (N := 15) ?hd (cs := #[.bool false, .slice none 0 0, .string (⟨#[]⟩ : ByteArray), .string (⟨#[]⟩ : ByteArray), .bool false]) (t := 27) ?hr ?_; (case hd => rfl); (case hg => rfl); (case hr => first | (go_simp; done) | (go_simp; rfl)); intro gb310 hg w94 hbox hb; have n0_ := Aside0.mk (Kd.R_below (by (with_reducible repeat (first | apply Kd.R_alloc | apply Kd.R_drewN | apply Kd.R_drew)); exact HO304.out) hb); have n1_ := Aside0.mk (blk_below (g := gb284) (o := .cells #[.string t280, .string t281, .bool t282] 25 (0, 0)) (by (with_reducible repeat (first | refine blk_drewN ?_ _ | refine blk_drew ?_ | refine blk_alloc ?_ _)); exact BK284.out) hb); have n2_ := Aside0.mk (blk_below (g := gb294) (o := .cells #[.string t290, .string t291, .bool t292] 25 (0, 0)) (by (with_reducible repeat (first | refine blk_drewN ?_ _ | refine blk_drew ?_ | refine blk_alloc ?_ _)); exact BK294.out) hb); have n3_ := Aside0.mk (below_step (by repeat (first | (with_reducible first | exact HB.out | apply below_alloc | apply pw_below_drewN | apply below_drew1 | refine below_set ?_ GE284.out | refine below_set ?_ GE294.out) | exact HB.out)) hb); have n4_ := Aside0.mk (hbox); have n5_ := Aside0.mk ((by rw [hg]; exact (below_size (by repeat (first | (with_reducible first | exact HB.out | apply below_alloc | apply pw_below_drewN | apply below_drew1 | refine below_set ?_ GE284.out | refine below_set ?_ GE294.out) | exact HB.out))) : w.heap.size ≤ gb310)); have n6_ := Aside0.mk ((by rw [hg]; exact (below_size (by repeat (first | (with_reducible first | exact HB.out | apply below_alloc | apply pw_below_drewN | apply below_drew1 | refine below_set ?_ GE284.out | refine below_set ?_ GE294.out) | exact HB.out))) : w.heap.size ≤ gb310)); have n7_ := Aside0.mk ((by rw [hg]; exact Nat.ne_of_lt (blk_lt (g := gb284) (o := .cells #[.string t280, .string t281, .bool t282] 25 (0, 0)) (by (with_reducible repeat (first | refine blk_drewN ?_ _ | refine blk_drew ?_ | refine blk_alloc ?_ _)); exact BK284.out)) : gb284 ≠ gb310)); have n8_ := Aside0.mk ((by rw [hg]; exact Nat.ne_of_gt (blk_lt (g := gb284) (o := .cells #[.string t280, .string t281, .bool t282] 25 (0, 0)) (by (with_reducible repeat (first | refine blk_drewN ?_ _ | refine blk_drew ?_ | refine blk_alloc ?_ _)); exact BK284.out)) : gb310 ≠ gb284)); have n9_ := Aside0.mk ((by rw [hg]; exact Nat.ne_of_lt (blk_lt (g := gb294) (o := .cells #[.string t290, .string t291, .bool t292] 25 (0, 0)) (by (with_reducible repeat (first | refine blk_drewN ?_ _ | refine blk_drew ?_ | refine blk_alloc ?_ _)); exact BK294.out)) : gb294 ≠ gb310)); have n10_ := Aside0.mk ((by rw [hg]; exact Nat.ne_of_gt (blk_lt (g := gb294) (o := .cells #[.string t290, .string t291, .bool t292] 25 (0, 0)) (by (with_reducible repeat (first | refine blk_drewN ?_ _ | refine blk_drew ?_ | refine blk_alloc ?_ _)); exact BK294.out)) : gb310 ≠ gb294)); clear HO304; clear BK284; clear BK294; clear HB; have HO304 := n0_; have BK284 := n1_; have BK294 := n2_; have HB := n3_; have BK310 := n4_; have GW310 := n5_; have GE310 := n6_; have NB284_310 := n7_; have NB310_284 := n8_; have NB294_310 := n9_; have NB310_294 := n10_; clear n0_ n1_ n2_ n3_ n4_ n5_ n6_ n7_ n8_ n9_ n10_; clear hb hbox hg; have hnb95 := NB310_284.out; have hnc95 := NB284_310.out; have hnb96 := NB310_294.out; have hnc96 := NB294_310.out; have hcz97_0 : w94.cell? ⟨gb310, 0, none⟩ = some (.bool false) := (blk_cell BK310.out 0).trans rfl; have hcz97_1 : w94.cell? ⟨gb310, 1, none⟩ = some (.slice none 0 0) := (blk_cell BK310.out 1).trans rfl; have hcz97_2 : w94.cell? ⟨gb310, 2, none⟩ = some (.string (⟨#[]⟩ : ByteArray)) := (blk_cell BK310.out 2).trans rfl; have hcz97_3 : w94.cell? ⟨gb310, 3, none⟩ = some (.string (⟨#[]⟩ : ByteArray)) := (blk_cell BK310.out 3).trans rfl; have hcz97_4 : w94.cell? ⟨gb310, 4, none⟩ = some (.bool false) := (blk_cell BK310.out 4).trans rfl; have hfz97_0 := blk_frozen BK310.out 0; have hfz97_1 := blk_frozen BK310.out 1; have hfz97_2 := blk_frozen BK310.out 2; have hfz97_3 := blk_frozen BK310.out 3; have hfz97_4 := blk_frozen BK310.out 4; obtain ⟨Ao98, co98, eo98⟩ := Kd.R_slice HO304.out; subst eo98))
                                                          go_ret
                                                          exact ⟨by first | rfl | (simp [errW_none, errW_some] <;> rfl) | (simp only [← hji38, ← hji41, ← hji46]; first | rfl | (simp [errW_none, errW_some] <;> rfl)) | (simp [*, errW_none, errW_some] <;> rfl), by repeat (first | (with_reducible first | exact HB.out | apply below_alloc | apply pw_below_drewN | apply below_drew1 | refine below_set ?_ GE284.out | refine below_set ?_ GE294.out | refine below_set ?_ GE310.out) | exact HB.out)⟩
                                                    · rw [if_neg c71] at H
                                                      have c71b0 : (t309 == 0) = false := beq_eq_false_iff_ne.mpr c71
                                                      have cj0 : (ji46 == 0) = false := by rw [c71b0] at c70b0; simpa using c70b0
                                                      have c71b1 : (t309 != 0) = true := bne_iff_ne.mpr c71
                                                      by_cases c99 : t309 = 3
                                                      · rw [if_pos c99] at H
                                                        have c99b0 : (t309 == 3) = true := beq_iff_eq.mpr c99
                                                        have c99b1 : (t309 != 3) = false := bne_eq_false_iff_eq.mpr c99
                                                        clear c99
                                                        replace H := Option.bind_eq_some_iff.mp H
                                                        obtain ⟨t313, A1000, H⟩ := H
                                                        replace H : (some t313) = some r := H
                                                        have A100 := Aside0.mk A1000
                                                        clear A1000
                                                        obtain rfl := Option.some.inj H
                                                        go_wp2_with (first | ((with_reducible refine gate_callee (f := 8) rfl ?_); refine goesL_ (some 114) rfl rfl Tryd.func8 (by kernel_rfl) rfl #[.string (⟨#[44, 64, 120]⟩ : ByteArray), .int .i64 (wrap64 (19 + (ji46)))] rfl (by (try simp only [List.map_toArray, List.map_cons, List.map_nil]); first | done | (simp only [hji46]; rfl) | rfl | (simp only [List.length_drop, List.length_take]; rfl)) ?_; (with_reducible refine (strings_Repeat.calls (⟨#[44, 64, 120]⟩ : ByteArray) (wrap64 (19 + (ji46))) t300 _ A66.out).mono ?_); rintro e w101 ⟨rfl, hb⟩; refine ⟨_, rfl, ?_⟩; have n0_ := Aside0.mk (blk_below (g := gb284) (o := .cells #[.string t280, .string t281, .bool t282] 25 (0, 0)) (by (with_reducible repeat (first | refine blk_drewN ?_ _ | refine blk_drew ?_ | refine blk_alloc ?_ _)); exact BK284.out) hb); have n1_ := Aside0.mk (blk_below (g := gb294) (o := .cells #[.string t290, .string t291, .bool t292] 25 (0, 0)) (by (with_reducible repeat (first | refine blk_drewN ?_ _ | refine blk_drew ?_ | refine blk_alloc ?_ _)); exact BK294.out) hb); have n2_ := Aside0.mk (below_step (by repeat (first | (with_reducible first | exact HB.out | apply below_alloc | apply pw_below_drewN | apply below_drew1 | refine below_set ?_ GE284.out | refine below_set ?_ GE294.out) | exact HB.out)) hb); clear BK284; clear BK294; clear HB; have BK284 := n0_; have BK294 := n1_; have HB := n2_; clear n0_ n1_ n2_; (try clear hb); (try clear hb2); (try clear hk); (try clear hi)) | ((with_reducible refine gate_callee (f := 5) rfl ?_); refine goesL_ (some 117) rfl rfl Tryd.func5 (by kernel_rfl) rfl #[.string (((⟨#[60, 64, 120]⟩ : ByteArray) ++ t300) ++ (⟨#[58, 97, 64, 98, 62]⟩ : ByteArray))] rfl (by (try simp only [List.map_toArray, List.map_cons, List.map_nil]); first | done | rfl | (simp only [List.length_drop, List.length_take]; rfl)) ?_; (with_reducible refine (path_Parse.calls kj48 (((⟨#[60, 64, 120]⟩ : ByteArray) ++ t300) ++ (⟨#[58, 97, 64, 98, 62]⟩ : ByteArray)) t301 t302 t305 t306 t307 t308 t309 _ ?side1 A69.out).mono ?_); (case side1 => exact GlobalsOK.below HG.out (by repeat (first | (with_reducible first | exact HB.out | apply below_alloc | apply pw_below_drewN | apply below_drew1 | refine below_set ?_ GE284.out | refine below_set ?_ GE294.out) | exact HB.out))); rintro e w102 ⟨v303, rfl, ho0, hb⟩; refine ⟨_, rfl, ?_⟩; have n0_ := Aside0.mk (Kd.R_lower ho0 (below_size (by repeat (first | (with_reducible first | exact HB.out | apply below_alloc | apply pw_below_drewN | apply below_drew1 | refine below_set ?_ GE284.out | refine below_set ?_ GE294.out) | exact HB.out)))); have n1_ := Aside0.mk (blk_below (g := gb284) (o := .cells #[.string t280, .string t281, .bool t282] 25 (0, 0)) (by (with_reducible repeat (first | refine blk_drewN ?_ _ | refine blk_drew ?_ | refine blk_alloc ?_ _)); exact BK284.out) hb); have n2_ := Aside0.mk (blk_below (g := gb294) (o := .cells #[.string t290, .string t291, .bool t292] 25 (0, 0)) (by (with_reducible repeat (first | refine blk_drewN ?_ _ | refine blk_drew ?_ | refine blk_alloc ?_ _)); exact BK294.out) hb); have n3_ := Aside0.mk (below_step (by repeat (first | (with_reducible first | exact HB.out | apply below_alloc | apply pw_below_drewN | apply below_drew1 | refine below_set ?_ GE284.out | refine below_set ?_ GE294.out) | exact HB.out)) hb); clear BK284; clear BK294; clear HB; have HO304 := n0_; have BK284 := n1_; have BK294 := n2_; have HB := n3_; clear n0_ n1_ n2_ n3_; (try clear hb); (try clear hb2); (try clear hk); (try clear hi); (try clear ho0)) | ((with_reducible refine gate_dst (N := 15) rfl ?_); (try (refine gate_guard (by rfl) ?_; dsimp only)); refine box_event ?hg (N := 15) ?hd (cs := #[.bool false, .slice none 0 0, .string (⟨#[]⟩ : ByteArray), .string (⟨#[]⟩ : ByteArray), .bool false]) (t := 27) ?hr ?_; (case hd => rfl); (case hg => rfl); (case hr => first | (go_simp; done) | (go_simp; rfl)); intro gb310 hg w103 hbox hb; have n0_ := Aside0.mk (Kd.R_below (by (with_reducible repeat (first | apply Kd.R_alloc | apply Kd.R_drewN | apply Kd.R_drew)); exact HO304.out) hb); have n1_ := Aside0.mk (blk_below (g := gb284) (o := .cells #[.string t280, .string t281, .bool t282] 25 (0, 0)) (by (with_reducible repeat (first | refine blk_drewN ?_ _ | refine blk_drew ?_ | refine blk_alloc ?_ _)); exact BK284.out) hb); have n2_ := Aside0.mk (blk_below (g := gb294) (o := .cells #[.string t290, .string t291, .bool t292] 25 (0, 0)) (by (with_reducible repeat (first | refine blk_drewN ?_ _ | refine blk_drew ?_ | refine blk_alloc ?_ _)); exact BK294.out) hb); have n3_ := Aside0.mk (below_step (by repeat (first | (with_reducible first | exact HB.out | apply below_alloc | apply pw_below_drewN | apply below_drew1 | refine below_set ?_ GE284.out | refine below_set ?_ GE294.out) | exact HB.out)) hb); have n4_ := Aside0.mk (hbox); have n5_ := Aside0.mk ((by rw [hg]; exact (below_size (by repeat (first | (with_reducible first | exact HB.out | apply below_alloc | apply pw_below_drewN | apply below_drew1 | refine below_set ?_ GE284.out | refine below_set ?_ GE294.out) | exact HB.out))) : w.heap.size ≤ gb310)); have n6_ := Aside0.mk ((by rw [hg]; exact (below_size (by repeat (first | (with_reducible first | exact HB.out | apply below_alloc | apply pw_below_drewN | apply below_drew1 | refine below_set ?_ GE284.out | refine below_set ?_ GE294.out) | exact HB.out))) : w.heap.size ≤ gb310)); have n7_ := Aside0.mk ((by rw [hg]; exact Nat.ne_of_lt (blk_lt (g := gb284) (o := .cells #[.string t280, .string t281, .bool t282] 25 (0, 0)) (by (with_reducible repeat (first | refine blk_drewN ?_ _ | refine blk_drew ?_ | refine blk_alloc ?_ _)); exact BK284.out)) : gb284 ≠ gb310)); have n8_ := Aside0.mk ((by rw [hg]; exact Nat.ne_of_gt (blk_lt (g := gb284) (o := .cells #[.string t280, .string t281, .bool t282] 25 (0, 0)) (by (with_reducible repeat (first | refine blk_drewN ?_ _ | refine blk_drew ?_ | refine blk_alloc ?_ _)); exact BK284.out)) : gb310 ≠ gb284)); have n9_ := Aside0.mk ((by rw [hg]; exact Nat.ne_of_lt (blk_lt (g := gb294) (o := .cells #[.string t290, .string t291, .bool t292] 25 (0, 0)) (by (with_reducible repeat (first | refine blk_drewN ?_ _ | refine blk_drew ?_ | refine blk_alloc ?_ _)); exact BK294.out)) : gb294 ≠ gb310)); have n10_ := Aside0.mk ((by rw [hg]; exact Nat.ne_of_gt (blk_lt (g := gb294) (o := .cells #[.string t290, .string t291, .bool t292] 25 (0, 0)) (by (with_reducible repeat (first | refine blk_drewN ?_ _ | refine blk_drew ?_ | refine blk_alloc ?_ _)); exact BK294.out)) : gb310 ≠ gb294)); clear HO304; clear BK284; clear BK294; clear HB; have HO304 := n0_; have BK284 := n1_; have BK294 := n2_; have HB := n3_; have BK310 := n4_; have GW310 := n5_; have GE310 := n6_; have NB284_310 := n7_; have NB310_284 := n8_; have NB294_310 := n9_; have NB310_294 := n10_; clear n0_ n1_ n2_ n3_ n4_ n5_ n6_ n7_ n8_ n9_ n10_; clear hb hbox hg; have hnb104 := NB310_284.out; have hnc104 := NB284_310.out; have hnb105 := NB310_294.out; have hnc105 := NB294_310.out; have hcz106_0 : w103.cell? ⟨gb310, 0, none⟩ = some (.bool false) := (blk_cell BK310.out 0).trans rfl; have hcz106_1 : w103.cell? ⟨gb310, 1, none⟩ = some (.slice none 0 0) := (blk_cell BK310.out 1).trans rfl; have hcz106_2 : w103.cell? ⟨gb310, 2, none⟩ = some (.string (⟨#[]⟩ : ByteArray)) := (blk_cell BK310.out 2).trans rfl; have hcz106_3 : w103.cell? ⟨gb310, 3, none⟩ = some (.string (⟨#[]⟩ : ByteArray)) := (blk_cell BK310.out 3).trans rfl; have hcz106_4 : w103.cell? ⟨gb310, 4, none⟩ = some (.bool false) := (blk_cell BK310.out 4).trans rfl; have hfz106_0 := blk_frozen BK310.out 0; have hfz106_1 := blk_frozen BK310.out 1; have hfz106_2 := blk_frozen BK310.out 2; have hfz106_3 := blk_frozen BK310.out 3; have hfz106_4 := blk_frozen BK310.out 4; obtain ⟨Ao107, co107, eo107⟩ := Kd.R_slice HO304.out; subst eo107) | (go_at_call 6; (with_reducible refine (frankinglaw15_awake.calls kj48  t313 _ ?side1 A100.out).mono ?_); (case side1 => exact GlobalsOK.below HG.out (by repeat (first | (with_reducible first | exact HB.out | apply below_alloc | apply pw_below_drewN | apply below_drew1 | refine below_set ?_ GE284.out | refine below_set ?_ GE294.out | refine below_set ?_ GE310.out) | exact HB.out))); rintro e w108 ⟨rfl, hb⟩; have n0_ := Aside0.mk (Kd.R_below (by (with_reducible repeat (first | apply Kd.R_alloc | apply Kd.R_drewN | apply Kd.R_drew)); exact (Kd.R_mono (Kd.R_far (p := ⟨gb310, 4, none⟩) (Kd.R_far (p := ⟨gb310, 3, none⟩) (Kd.R_far (p := ⟨gb310, 2, none⟩) (Kd.R_far (p := ⟨gb310, 1, none⟩) (Kd.R_far (p := ⟨gb310, 0, none⟩) (Kd.R_types HO304.out BK310.out (by decide)) (fun _ hk => hk.2) (.bool t301)) (fun _ hk => hk.2) (.slice Ao107 t302.length co107)) (fun _ hk => hk.2) (.string t305)) (fun _ hk => hk.2) (.string t306)) (fun _ hk => hk.2) (.bool t307)) (fun _ h_ => h_.1))) hb); have n1_ := Aside0.mk (blk_below (g := gb284) (o := .cells #[.string t280, .string t281, .bool t282] 25 (0, 0)) (by (with_reducible repeat (first | refine blk_drewN ?_ _ | refine blk_drew ?_ | refine blk_alloc ?_ _)); refine blk_far ?_ NB284_310.out _; (with_reducible repeat (first | refine blk_drewN ?_ _ | refine blk_drew ?_ | refine blk_alloc ?_ _)); refine blk_far ?_ NB284_310.out _; (with_reducible repeat (first | refine blk_drewN ?_ _ | refine blk_drew ?_ | refine blk_alloc ?_ _)); refine blk_far ?_ NB284_310.out _; (with_reducible repeat (first | refine blk_drewN ?_ _ | refine blk_drew ?_ | refine blk_alloc ?_ _)); refine blk_far ?_ NB284_310.out _; (with_reducible repeat (first | refine blk_drewN ?_ _ | refine blk_drew ?_ | refine blk_alloc ?_ _)); refine blk_far ?_ NB284_310.out _; (with_reducible repeat (first | refine blk_drewN ?_ _ | refine blk_drew ?_ | refine blk_alloc ?_ _)); exact BK284.out) hb); have n2_ := Aside0.mk (blk_below (g := gb294) (o := .cells #[.string t290, .string t291, .bool t292] 25 (0, 0)) (by (with_reducible repeat (first | refine blk_drewN ?_ _ | refine blk_drew ?_ | refine blk_alloc ?_ _)); refine blk_far ?_ NB294_310.out _; (with_reducible repeat (first | refine blk_drewN ?_ _ | refine blk_drew ?_ | refine blk_alloc ?_ _)); refine blk_far ?_ NB294_310.out _; (with_reducible repeat (first | refine blk_drewN ?_ _ | refine blk_drew ?_ | refine blk_alloc ?_ _)); refine blk_far ?_ NB294_310.out _; (with_reducible repeat (first | refine blk_drewN ?_ _ | refine blk_drew ?_ | refine blk_alloc ?_ _)); refine blk_far ?_ NB294_310.out _; (with_reducible repeat (first | refine blk_drewN ?_ _ | refine blk_drew ?_ | refine blk_alloc ?_ _)); refine blk_far ?_ NB294_310.out _; (with_reducible repeat (first | refine blk_drewN ?_ _ | refine blk_drew ?_ | refine blk_alloc ?_ _)); exact BK294.out) hb); have n3_ := Aside0.mk (blk_below (g := gb310) (o := .cells #[.bool t301, .slice Ao107 t302.length co107, .string t305, .string t306, .bool t307] 27 (0, 0)) (by (with_reducible repeat (first | refine blk_drewN ?_ _ | refine blk_drew ?_ | refine blk_alloc ?_ _)); refine blk_put (cs := #[.bool t301, .slice Ao107 t302.length co107, .string t305, .string t306, .bool false]) ?_ 4 _ rfl; (with_reducible repeat (first | refine blk_drewN ?_ _ | refine blk_drew ?_ | refine blk_alloc ?_ _)); refine blk_put (cs := #[.bool t301, .slice Ao107 t302.length co107, .string t305, .string (⟨#[]⟩ : ByteArray), .bool false]) ?_ 3 _ rfl; (with_reducible repeat (first | refine blk_drewN ?_ _ | refine blk_drew ?_ | refine blk_alloc ?_ _)); refine blk_put (cs := #[.bool t301, .slice Ao107 t302.length co107, .string (⟨#[]⟩ : ByteArray), .string (⟨#[]⟩ : ByteArray), .bool false]) ?_ 2 _ rfl; (with_reducible repeat (first | refine blk_drewN ?_ _ | refine blk_drew ?_ | refine blk_alloc ?_ _)); refine blk_put (cs := #[.bool t301, .slice none 0 0, .string (⟨#[]⟩ : ByteArray), .string (⟨#[]⟩ : ByteArray), .bool false]) ?_ 1 _ rfl; (with_reducible repeat (first | refine blk_drewN ?_ _ | refine blk_drew ?_ | refine blk_alloc ?_ _)); refine blk_put (cs := #[.bool false, .slice none 0 0, .string (⟨#[]⟩ : ByteArray), .string (⟨#[]⟩ : ByteArray), .bool false]) ?_ 0 _ rfl; (with_reducible repeat (first | refine blk_drewN ?_ _ | refine blk_drew ?_ | refine blk_alloc ?_ _)); exact BK310.out) hb); have n4_ := Aside0.mk (below_step (by repeat (first | (with_reducible first | exact HB.out | apply below_alloc | apply pw_below_drewN | apply below_drew1 | refine below_set ?_ GE284.out | refine below_set ?_ GE294.out | refine below_set ?_ GE310.out) | exact HB.out)) hb); clear HO304; clear BK284; clear BK294; clear BK310; clear HB; have HO304 := n0_; have BK284 := n1_; have BK294 := n2_; have BK310 := n3_; have HB := n4_; clear n0_ n1_ n2_ n3_ n4_; (try clear hb); (try clear hb2); (try clear hk); (try clear hi)))
                                                        go_ret
                                                        exact ⟨by first | rfl | (simp [errW_none, errW_some] <;> rfl) | (simp only [← hji38, ← hji41, ← hji46]; first | rfl | (simp [errW_none, errW_some] <;> rfl)) | (simp [*, errW_none, errW_some] <;> rfl), by repeat (first | (with_reducible first | exact HB.out | apply below_alloc | apply pw_below_drewN | apply below_drew1 | refine below_set ?_ GE284.out | refine below_set ?_ GE294.out | refine below_set ?_ GE310.out) | exact HB.out)⟩
                                                      · rw [if_neg c99] at H
                                                        have c99b0 : (t309 == 3) = false := beq_eq_false_iff_ne.mpr c99
                                                        have c99b1 : (t309 != 3) = true := bne_iff_ne.mpr c99
                                                        obtain rfl := Option.some.inj H
                                                        go_wp2_with (first | ((with_reducible refine gate_callee (f := 8) rfl ?_); refine goesL_ (some 114) rfl rfl Tryd.func8 (by kernel_rfl) rfl #[.string (⟨#[44, 64, 120]⟩ : ByteArray), .int .i64 (wrap64 (19 + (ji46)))] rfl (by (try simp only [List.map_toArray, List.map_cons, List.map_nil]); first | done | (simp only [hji46]; rfl) | rfl | (simp only [List.length_drop, List.length_take]; rfl)) ?_; (with_reducible refine (strings_Repeat.calls (⟨#[44, 64, 120]⟩ : ByteArray) (wrap64 (19 + (ji46))) t300 _ A66.out).mono ?_); rintro e w109 ⟨rfl, hb⟩; refine ⟨_, rfl, ?_⟩; have n0_ := Aside0.mk (blk_below (g := gb284) (o := .cells #[.string t280, .string t281, .bool t282] 25 (0, 0)) (by (with_reducible repeat (first | refine blk_drewN ?_ _ | refine blk_drew ?_ | refine blk_alloc ?_ _)); exact BK284.out) hb); have n1_ := Aside0.mk (blk_below (g := gb294) (o := .cells #[.string t290, .string t291, .bool t292] 25 (0, 0)) (by (with_reducible repeat (first | refine blk_drewN ?_ _ | refine blk_drew ?_ | refine blk_alloc ?_ _)); exact BK294.out) hb); have n2_ := Aside0.mk (below_step (by repeat (first | (with_reducible first | exact HB.out | apply below_alloc | apply pw_below_drewN | apply below_drew1 | refine below_set ?_ GE284.out | refine below_set ?_ GE294.out) | exact HB.out)) hb); clear BK284; clear BK294; clear HB; have BK284 := n0_; have BK294 := n1_; have HB := n2_; clear n0_ n1_ n2_; (try clear hb); (try clear hb2); (try clear hk); (try clear hi)) | ((with_reducible refine gate_callee (f := 5) rfl ?_); refine goesL_ (some 117) rfl rfl Tryd.func5 (by kernel_rfl) rfl #[.string (((⟨#[60, 64, 120]⟩ : ByteArray) ++ t300) ++ (⟨#[58, 97, 64, 98, 62]⟩ : ByteArray))] rfl (by (try simp only [List.map_toArray, List.map_cons, List.map_nil]); first | done | rfl | (simp only [List.length_drop, List.length_take]; rfl)) ?_; (with_reducible refine (path_Parse.calls kj48 (((⟨#[60, 64, 120]⟩ : ByteArray) ++ t300) ++ (⟨#[58, 97, 64, 98, 62]⟩ : ByteArray)) t301 t302 t305 t306 t307 t308 t309 _ ?side1 A69.out).mono ?_); (case side1 => exact GlobalsOK.below HG.out (by repeat (first | (with_reducible first | exact HB.out | apply below_alloc | apply pw_below_drewN | apply below_drew1 | refine below_set ?_ GE284.out | refine below_set ?_ GE294.out) | exact HB.out))); rintro e w110 ⟨v303, rfl, ho0, hb⟩; refine ⟨_, rfl, ?_⟩; have n0_ := Aside0.mk (Kd.R_lower ho0 (below_size (by repeat (first | (with_reducible first | exact HB.out | apply below_alloc | apply pw_below_drewN | apply below_drew1 | refine below_set ?_ GE284.out | refine below_set ?_ GE294.out) | exact HB.out)))); have n1_ := Aside0.mk (blk_below (g := gb284) (o := .cells #[.string t280, .string t281, .bool t282] 25 (0, 0)) (by (with_reducible repeat (first | refine blk_drewN ?_ _ | refine blk_drew ?_ | refine blk_alloc ?_ _)); exact BK284.out) hb); have n2_ := Aside0.mk (blk_below (g := gb294) (o := .cells #[.string t290, .string t291, .bool t292] 25 (0, 0)) (by (with_reducible repeat (first | refine blk_drewN ?_ _ | refine blk_drew ?_ | refine blk_alloc ?_ _)); exact BK294.out) hb); have n3_ := Aside0.mk (below_step (by repeat (first | (with_reducible first | exact HB.out | apply below_alloc | apply pw_below_drewN | apply below_drew1 | refine below_set ?_ GE284.out | refine below_set ?_ GE294.out) | exact HB.out)) hb); clear BK284; clear BK294; clear HB; have HO304 := n0_; have BK284 := n1_; have BK294 := n2_; have HB := n3_; clear n0_ n1_ n2_ n3_; (try clear hb); (try clear hb2); (try clear hk); (try clear hi); (try clear ho0)) | ((with_reducible refine gate_dst (N := 15) rfl ?_); (try (refine gate_guard (by rfl) ?_; dsimp only)); refine box_event ?hg (N := 15) ?hd (cs := #[.bool false, .slice none 0 0, .string (⟨#[]⟩ : ByteArray), .string (⟨#[]⟩ : ByteArray), .bool false]) (t := 27) ?hr ?_; (case hd => rfl); (case hg => rfl); (case hr => first | (go_simp; done) | (go_simp; rfl)); intro gb310 hg w111 hbox hb; have n0_ := Aside0.mk (Kd.R_below (by (with_reducible repeat (first | apply Kd.R_alloc | apply Kd.R_drewN | apply Kd.R_drew)); exact HO304.out) hb); have n1_ := Aside0.mk (blk_below (g := gb284) (o := .cells #[.string t280, .string t281, .bool t282] 25 (0, 0)) (by (with_reducible repeat (first | refine blk_drewN ?_ _ | refine blk_drew ?_ | refine blk_alloc ?_ _)); exact BK284.out) hb); have n2_ := Aside0.mk (blk_below (g := gb294) (o := .cells #[.string t290, .string t291, .bool t292] 25 (0, 0)) (by (with_reducible repeat (first | refine blk_drewN ?_ _ | refine blk_drew ?_ | refine blk_alloc ?_ _)); exact BK294.out) hb); have n3_ := Aside0.mk (below_step (by repeat (first | (with_reducible first | exact HB.out | apply below_alloc | apply pw_below_drewN | apply below_drew1 | refine below_set ?_ GE284.out | refine below_set ?_ GE294.out) | exact HB.out)) hb); have n4_ := Aside0.mk (hbox); have n5_ := Aside0.mk ((by rw [hg]; exact (below_size (by repeat (first | (with_reducible first | exact HB.out | apply below_alloc | apply pw_below_drewN | apply below_drew1 | refine below_set ?_ GE284.out | refine below_set ?_ GE294.out) | exact HB.out))) : w.heap.size ≤ gb310)); have n6_ := Aside0.mk ((by rw [hg]; exact (below_size (by repeat (first | (with_reducible first | exact HB.out | apply below_alloc | apply pw_below_drewN | apply below_drew1 | refine below_set ?_ GE284.out | refine below_set ?_ GE294.out) | exact HB.out))) : w.heap.size ≤ gb310)); have n7_ := Aside0.mk ((by rw [hg]; exact Nat.ne_of_lt (blk_lt (g := gb284) (o := .cells #[.string t280, .string t281, .bool t282] 25 (0, 0)) (by (with_reducible repeat (first | refine blk_drewN ?_ _ | refine blk_drew ?_ | refine blk_alloc ?_ _)); exact BK284.out)) : gb284 ≠ gb310)); have n8_ := Aside0.mk ((by rw [hg]; exact Nat.ne_of_gt (blk_lt (g := gb284) (o := .cells #[.string t280, .string t281, .bool t282] 25 (0, 0)) (by (with_reducible repeat (first | refine blk_drewN ?_ _ | refine blk_drew ?_ | refine blk_alloc ?_ _)); exact BK284.out)) : gb310 ≠ gb284)); have n9_ := Aside0.mk ((by rw [hg]; exact Nat.ne_of_lt (blk_lt (g := gb294) (o := .cells #[.string t290, .string t291, .bool t292] 25 (0, 0)) (by (with_reducible repeat (first | refine blk_drewN ?_ _ | refine blk_drew ?_ | refine blk_alloc ?_ _)); exact BK294.out)) : gb294 ≠ gb310)); have n10_ := Aside0.mk ((by rw [hg]; exact Nat.ne_of_gt (blk_lt (g := gb294) (o := .cells #[.string t290, .string t291, .bool t292] 25 (0, 0)) (by (with_reducible repeat (first | refine blk_drewN ?_ _ | refine blk_drew ?_ | refine blk_alloc ?_ _)); exact BK294.out)) : gb310 ≠ gb294)); clear HO304; clear BK284; clear BK294; clear HB; have HO304 := n0_; have BK284 := n1_; have BK294 := n2_; have HB := n3_; have BK310 := n4_; have GW310 := n5_; have GE310 := n6_; have NB284_310 := n7_; have NB310_284 := n8_; have NB294_310 := n9_; have NB310_294 := n10_; clear n0_ n1_ n2_ n3_ n4_ n5_ n6_ n7_ n8_ n9_ n10_; clear hb hbox hg; have hnb112 := NB310_284.out; have hnc112 := NB284_310.out; have hnb113 := NB310_294.out; have hnc113 := NB294_310.out; have hcz114_0 : w111.cell? ⟨gb310, 0, none⟩ = some (.bool false) := (blk_cell BK310.out 0).trans rfl; have hcz114_1 : w111.cell? ⟨gb310, 1, none⟩ = some (.slice none 0 0) := (blk_cell BK310.out 1).trans rfl; have hcz114_2 : w111.cell? ⟨gb310, 2, none⟩ = some (.string (⟨#[]⟩ : ByteArray)) := (blk_cell BK310.out 2).trans rfl; have hcz114_3 : w111.cell? ⟨gb310, 3, none⟩ = some (.string (⟨#[]⟩ : ByteArray)) := (blk_cell BK310.out 3).trans rfl; have hcz114_4 : w111.cell? ⟨gb310, 4, none⟩ = some (.bool false) := (blk_cell BK310.out 4).trans rfl; have hfz114_0 := blk_frozen BK310.out 0; have hfz114_1 := blk_frozen BK310.out 1; have hfz114_2 := blk_frozen BK310.out 2; have hfz114_3 := blk_frozen BK310.out 3; have hfz114_4 := blk_frozen BK310.out 4; obtain ⟨Ao115, co115, eo115⟩ := Kd.R_slice HO304.out; subst eo115))
                                                        go_ret
                                                        exact ⟨by first | rfl | (simp [errW_none, errW_some] <;> rfl) | (simp only [← hji38, ← hji41, ← hji46]; first | rfl | (simp [errW_none, errW_some] <;> rfl)) | (simp [*, errW_none, errW_some] <;> rfl), by repeat (first | (with_reducible first | exact HB.out | apply below_alloc | apply pw_below_drewN | apply below_drew1 | refine below_set ?_ GE284.out | refine below_set ?_ GE294.out | refine below_set ?_ GE310.out) | exact HB.out)⟩
                                                  · rw [if_neg c70] at H
                                                    have c70b0 : ((t309 == 0) == ((ji46) == 0)) = false := by simpa using c70
                                                    (try (have c70b1 : decide ((t309 == 0) = ((ji46) == 0)) = false := by simpa using c70))
                                                    (try (have c70b2 : ((t309 == 0) == ((ji46) == 0)) = false := by simpa using c70))
                                                    (try (have c70b3 : ¬ ((t309 == 0) = ((ji46) == 0)) := by simpa using c70))
                                                    clear c70
                                                    obtain rfl := Option.some.inj H
                                                    go_wp2_with (first | ((with_reducible refine gate_callee (f := 8) rfl ?_); refine goesL_ (some 114) rfl rfl Tryd.func8 (by kernel_rfl) rfl #[.string (⟨#[44, 64, 120]⟩ : ByteArray), .int .i64 (wrap64 (19 + (ji46)))] rfl (by (try simp only [List.map_toArray, List.map_cons, List.map_nil]); first | done | (simp only [hji46]; rfl) | rfl | (simp only [List.length_drop, List.length_take]; rfl)) ?_; (with_reducible refine (strings_Repeat.calls (⟨#[44, 64, 120]⟩ : ByteArray) (wrap64 (19 + (ji46))) t300 _ A66.out).mono ?_); rintro e w116 ⟨rfl, hb⟩; refine ⟨_, rfl, ?_⟩; have n0_ := Aside0.mk (blk_below (g := gb284) (o := .cells #[.string t280, .string t281, .bool t282] 25 (0, 0)) (by (with_reducible repeat (first | refine blk_drewN ?_ _ | refine blk_drew ?_ | refine blk_alloc ?_ _)); exact BK284.out) hb); have n1_ := Aside0.mk (blk_below (g := gb294) (o := .cells #[.string t290, .string t291, .bool t292] 25 (0, 0)) (by (with_reducible repeat (first | refine blk_drewN ?_ _ | refine blk_drew ?_ | refine blk_alloc ?_ _)); exact BK294.out) hb); have n2_ := Aside0.mk (below_step (by repeat (first | (with_reducible first | exact HB.out | apply below_alloc | apply pw_below_drewN | apply below_drew1 | refine below_set ?_ GE284.out | refine below_set ?_ GE294.out) | exact HB.out)) hb); clear BK284; clear BK294; clear HB; have BK284 := n0_; have BK294 := n1_; have HB := n2_; clear n0_ n1_ n2_; (try clear hb); (try clear hb2); (try clear hk); (try clear hi)) | ((with_reducible refine gate_callee (f := 5) rfl ?_); refine goesL_ (some 117) rfl rfl Tryd.func5 (by kernel_rfl) rfl #[.string (((⟨#[60, 64, 120]⟩ : ByteArray) ++ t300) ++ (⟨#[58, 97, 64, 98, 62]⟩ : ByteArray))] rfl (by (try simp only [List.map_toArray, List.map_cons, List.map_nil]); first | done | rfl | (simp only [List.length_drop, List.length_take]; rfl)) ?_; (with_reducible refine (path_Parse.calls kj48 (((⟨#[60, 64, 120]⟩ : ByteArray) ++ t300) ++ (⟨#[58, 97, 64, 98, 62]⟩ : ByteArray)) t301 t302 t305 t306 t307 t308 t309 _ ?side1 A69.out).mono ?_); (case side1 => exact GlobalsOK.below HG.out (by repeat (first | (with_reducible first | exact HB.out | apply below_alloc | apply pw_below_drewN | apply below_drew1 | refine below_set ?_ GE284.out | refine below_set ?_ GE294.out) | exact HB.out))); rintro e w117 ⟨v303, rfl, ho0, hb⟩; refine ⟨_, rfl, ?_⟩; have n0_ := Aside0.mk (Kd.R_lower ho0 (below_size (by repeat (first | (with_reducible first | exact HB.out | apply below_alloc | apply pw_below_drewN | apply below_drew1 | refine below_set ?_ GE284.out | refine below_set ?_ GE294.out) | exact HB.out)))); have n1_ := Aside0.mk (blk_below (g := gb284) (o := .cells #[.string t280, .string t281, .bool t282] 25 (0, 0)) (by (with_reducible repeat (first | refine blk_drewN ?_ _ | refine blk_drew ?_ | refine blk_alloc ?_ _)); exact BK284.out) hb); have n2_ := Aside0.mk (blk_below (g := gb294) (o := .cells #[.string t290, .string t291, .bool t292] 25 (0, 0)) (by (with_reducible repeat (first | refine blk_drewN ?_ _ | refine blk_drew ?_ | refine blk_alloc ?_ _)); exact BK294.out) hb); have n3_ := Aside0.mk (below_step (by repeat (first | (with_reducible first | exact HB.out | apply below_alloc | apply pw_below_drewN | apply below_drew1 | refine below_set ?_ GE284.out | refine below_set ?_ GE294.out) | exact HB.out)) hb); clear BK284; clear BK294; clear HB; have HO304 := n0_; have BK284 := n1_; have BK294 := n2_; have HB := n3_; clear n0_ n1_ n2_ n3_; (try clear hb); (try clear hb2); (try clear hk); (try clear hi); (try clear ho0)) | ((with_reducible refine gate_dst (N := 15) rfl ?_); (try (refine gate_guard (by rfl) ?_; dsimp only)); refine box_event ?hg (N := 15) ?hd (cs := #[.bool false, .slice none 0 0, .string (⟨#[]⟩ : ByteArray), .string (⟨#[]⟩ : ByteArray), .bool false]) (t := 27) ?hr ?_; (case hd => rfl); (case hg => rfl); (case hr => first | (go_simp; done) | (go_simp; rfl)); intro gb310 hg w118 hbox hb; have n0_ := Aside0.mk (Kd.R_below (by (with_reducible repeat (first | apply Kd.R_alloc | apply Kd.R_drewN | apply Kd.R_drew)); exact HO304.out) hb); have n1_ := Aside0.mk (blk_below (g := gb284) (o := .cells #[.string t280, .string t281, .bool t282] 25 (0, 0)) (by (with_reducible repeat (first | refine blk_drewN ?_ _ | refine blk_drew ?_ | refine blk_alloc ?_ _)); exact BK284.out) hb); have n2_ := Aside0.mk (blk_below (g := gb294) (o := .cells #[.string t290, .string t291, .bool t292] 25 (0, 0)) (by (with_reducible repeat (first | refine blk_drewN ?_ _ | refine blk_drew ?_ | refine blk_alloc ?_ _)); exact BK294.out) hb); have n3_ := Aside0.mk (below_step (by repeat (first | (with_reducible first | exact HB.out | apply below_alloc | apply pw_below_drewN | apply below_drew1 | refine below_set ?_ GE284.out | refine below_set ?_ GE294.out) | exact HB.out)) hb); have n4_ := Aside0.mk (hbox); have n5_ := Aside0.mk ((by rw [hg]; exact (below_size (by repeat (first | (with_reducible first | exact HB.out | apply below_alloc | apply pw_below_drewN | apply below_drew1 | refine below_set ?_ GE284.out | refine below_set ?_ GE294.out) | exact HB.out))) : w.heap.size ≤ gb310)); have n6_ := Aside0.mk ((by rw [hg]; exact (below_size (by repeat (first | (with_reducible first | exact HB.out | apply below_alloc | apply pw_below_drewN | apply below_drew1 | refine below_set ?_ GE284.out | refine below_set ?_ GE294.out) | exact HB.out))) : w.heap.size ≤ gb310)); have n7_ := Aside0.mk ((by rw [hg]; exact Nat.ne_of_lt (blk_lt (g := gb284) (o := .cells #[.string t280, .string t281, .bool t282] 25 (0, 0)) (by (with_reducible repeat (first | refine blk_drewN ?_ _ | refine blk_drew ?_ | refine blk_alloc ?_ _)); exact BK284.out)) : gb284 ≠ gb310)); have n8_ := Aside0.mk ((by rw [hg]; exact Nat.ne_of_gt (blk_lt (g := gb284) (o := .cells #[.string t280, .string t281, .bool t282] 25 (0, 0)) (by (with_reducible repeat (first | refine blk_drewN ?_ _ | refine blk_drew ?_ | refine blk_alloc ?_ _)); exact BK284.out)) : gb310 ≠ gb284)); have n9_ := Aside0.mk ((by rw [hg]; exact Nat.ne_of_lt (blk_lt (g := gb294) (o := .cells #[.string t290, .string t291, .bool t292] 25 (0, 0)) (by (with_reducible repeat (first | refine blk_drewN ?_ _ | refine blk_drew ?_ | refine blk_alloc ?_ _)); exact BK294.out)) : gb294 ≠ gb310)); have n10_ := Aside0.mk ((by rw [hg]; exact Nat.ne_of_gt (blk_lt (g := gb294) (o := .cells #[.string t290, .string t291, .bool t292] 25 (0, 0)) (by (with_reducible repeat (first | refine blk_drewN ?_ _ | refine blk_drew ?_ | refine blk_alloc ?_ _)); exact BK294.out)) : gb310 ≠ gb294)); clear HO304; clear BK284; clear BK294; clear HB; have HO304 := n0_; have BK284 := n1_; have BK294 := n2_; have HB := n3_; have BK310 := n4_; have GW310 := n5_; have GE310 := n6_; have NB284_310 := n7_; have NB310_284 := n8_; have NB294_310 := n9_; have NB310_294 := n10_; clear n0_ n1_ n2_ n3_ n4_ n5_ n6_ n7_ n8_ n9_ n10_; clear hb hbox hg; have hnb119 := NB310_284.out; have hnc119 := NB284_310.out; have hnb120 := NB310_294.out; have hnc120 := NB294_310.out; have hcz121_0 : w118.cell? ⟨gb310, 0, none⟩ = some (.bool false) := (blk_cell BK310.out 0).trans rfl; have hcz121_1 : w118.cell? ⟨gb310, 1, none⟩ = some (.slice none 0 0) := (blk_cell BK310.out 1).trans rfl; have hcz121_2 : w118.cell? ⟨gb310, 2, none⟩ = some (.string (⟨#[]⟩ : ByteArray)) := (blk_cell BK310.out 2).trans rfl; have hcz121_3 : w118.cell? ⟨gb310, 3, none⟩ = some (.string (⟨#[]⟩ : ByteArray)) := (blk_cell BK310.out 3).trans rfl; have hcz121_4 : w118.cell? ⟨gb310, 4, none⟩ = some (.bool false) := (blk_cell BK310.out 4).trans rfl; have hfz121_0 := blk_frozen BK310.out 0; have hfz121_1 := blk_frozen BK310.out 1; have hfz121_2 := blk_frozen BK310.out 2; have hfz121_3 := blk_frozen BK310.out 3; have hfz121_4 := blk_frozen BK310.out 4; obtain ⟨Ao122, co122, eo122⟩ := Kd.R_slice HO304.out; subst eo122))
                                                    go_ret
                                                    exact ⟨by first | rfl | (simp [errW_none, errW_some] <;> rfl) | (simp only [← hji38, ← hji41, ← hji46]; first | rfl | (simp [errW_none, errW_some] <;> rfl)) | (simp [*, errW_none, errW_some] <;> rfl), by repeat (first | (with_reducible first | exact HB.out | apply below_alloc | apply pw_below_drewN | apply below_drew1 | refine below_set ?_ GE284.out | refine below_set ?_ GE294.out | refine below_set ?_ GE310.out) | exact HB.out)⟩
                                                · rw [if_neg c68] at H
                                                  exact absurd H (by simp)
                                              · rw [if_neg c67] at H
                                                exact absurd H (by simp)
                                      · rw [if_neg c48] at H
                                        exact absurd H (by simp)
                                    · rw [if_neg c47] at H
                                      exact absurd H (by simp)
                                  · rw [if_neg c44] at H
                                    exact absurd H (by simp)
                                · rw [if_neg c43] at H
                                  exact absurd H (by simp)
                              · rw [if_neg c40] at H
                                exact absurd H (by simp)
                            · rw [if_neg c37] at H
                              exact absurd H (by simp)
                          · rw [if_neg c36] at H
                            exact absurd H (by simp)
                        · rw [if_neg c35] at H
                          exact absurd H (by simp)
                      · rw [if_neg c34] at H
                        exact absurd H (by simp)
                    · rw [if_neg c33] at H
                      exact absurd H (by simp)
                  · rw [if_neg c32] at H
                    exact absurd H (by simp)
              · rw [if_neg c29] at H
                exact absurd H (by simp)
      · rw [if_neg c13] at H
        exact absurd H (by simp)

/-- THE ONE PURE STATEMENT of frankinglaw15_PathLimits: yours. -/
def frankinglaw15_PathLimits.Pure : Prop := ∀ (a0 : Int) (a1 : Bool), (Lit.int .u8 a0).wf = true → ∃ k, frankinglaw15_PathLimits.f k a0 a1 = some true
theorem frankinglaw15_PathLimits.walk (P : frankinglaw15_PathLimits.Pure) (a0 : Int) (a1 : Bool) (w : World) (w0 : (Lit.int .u8 a0).wf = true) (hG : GlobalsOK w) :
    Calls Tryd.prog 4 #[.int .u8 a0, .bool a1] w fun e w' => e = .returned (.bool true) ∧ Below w.heap.size w w' := by
  obtain ⟨k, h⟩ := P a0 a1 w0
  refine (frankinglaw15_PathLimits.calls k a0 a1 true w hG h).mono ?_
  rintro e w' ⟨rfl, hd⟩
  exact ⟨rfl, hd⟩

end Go.Proofs.YtokpnfljjjjikaaDoor.QPath
