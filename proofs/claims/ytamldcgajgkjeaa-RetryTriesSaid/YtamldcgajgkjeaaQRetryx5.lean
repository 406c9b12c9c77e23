-- WRITTEN BY A PROGRAM of this session (wip/myprint), out of the translation; Lean checks it.
import Derived.Test.YtamldcgajgkjeaaQRetryx0
import Derived.Test.YtamldcgajgkjeaaQRetryx1
import Derived.Test.YtamldcgajgkjeaaQRetryx4
namespace Go.Proofs.Ytamldcgajgkjeaa.QRetry
open Go.RowKit Go.Proofs.YtamldcgajgkjeaaW.PrintWords Go.Proofs.YtamldcgajgkjeaaW.PrintLast Go.Proofs.YtamldcgajgkjeaaW.PrintMore
attribute [local go_sem] max2_int min2_int max_two min_two max_three min_three max_four min_four   -- for this text's walks alone
set_option linter.unusedVariables false
set_option linter.unusedSimpArgs false

/-! ### retry_Due: function 5 -/
def retry_Due.f (k : Nat) (l0 : List Int) (a1 : Int) (a2 : Int) : Option (Int) := (retry_Right.f k l0 1).bind fun t107 => (if t107 = true then (if a1 < 1 then (some 0) else ((retry_tick.f a2 0).bind fun t108 => (if t108 = true then (if 0 ≤ (wrap64 ((mn a1 (l0.length : Int)) - 1)) then (if (wrap64 ((mn a1 (l0.length : Int)) - 1)) < (l0.length : Int) then (some (mn (wrap64 (a2 + (rd l0 (wrap64 ((mn a1 (l0.length : Int)) - 1))))) 1099511627776)) else (none)) else (none)) else (some 0)))) else (some 0))
theorem retry_Due.mono : ∀ a0 a1 a2 k, LeO (retry_Due.f k a0 a1 a2) (retry_Due.f (k + 1) a0 a1 a2) := by
  intro a0 a1 a2 k
  unfold retry_Due.f
  repeat' first
      | (with_reducible exact retry_Right.mono _ _ _)
      | (with_reducible exact LeO.refl _)
      | (with_reducible exact LeO.none _)
      | (with_reducible refine LeO.ite ?_ ?_)
      | (with_reducible refine LeO.bind ?_ (fun _ => ?_))
      | exact retry_Right.mono _ _ _
      | exact LeO.none _
      | refine LeO.ite ?_ ?_
      | refine LeO.bind ?_ (fun _ => ?_)
set_option maxHeartbeats 8000000 in
set_option maxRecDepth 100000 in
theorem retry_Due.calls (k : Nat) (A0 : Option Addr) (c0 : Nat) (l0 : List Int) (a1 : Int) (a2 : Int) (r : Int) (w : World) (hr0 : Kd.C (Kd.int .i64) w A0 l0.length l0) (hc0 : l0.length ≤ c0) (h : retry_Due.f k l0 a1 a2 = some r) :
    Calls Try.prog 5 #[.slice A0 l0.length c0, .int .i64 a1, .int .i64 a2] w fun e w' => e = .returned (.int .i64 r) ∧ Below w.heap.size w w' := by
  have HR0 := Aside0.mk hr0
  have HC0 := Aside0.mk hc0
  clear hr0 hc0
  have HB := Aside0.mk (Below.refl w.heap.size w)
  have H : ((retry_Right.f k l0 1).bind fun t107 => (if t107 = true then (if a1 < 1 then (some 0) else ((retry_tick.f a2 0).bind fun t108 => (if t108 = true then (if 0 ≤ (wrap64 ((mn a1 (l0.length : Int)) - 1)) then (if (wrap64 ((mn a1 (l0.length : Int)) - 1)) < (l0.length : Int) then (some (mn (wrap64 (a2 + (rd l0 (wrap64 ((mn a1 (l0.length : Int)) - 1))))) 1099511627776)) else (none)) else (none)) else (some 0)))) else (some 0))) = some r := h
  clear h
  replace H := Option.bind_eq_some_iff.mp H
  obtain ⟨t107, A40, H⟩ := H
  replace H : (if t107 = true then (if a1 < 1 then (some 0) else ((retry_tick.f a2 0).bind fun t108 => (if t108 = true then (if 0 ≤ (wrap64 ((mn a1 (l0.length : Int)) - 1)) then (if (wrap64 ((mn a1 (l0.length : Int)) - 1)) < (l0.length : Int) then (some (mn (wrap64 (a2 + (rd l0 (wrap64 ((mn a1 (l0.length : Int)) - 1))))) 1099511627776)) else (none)) else (none)) else (some 0)))) else (some 0)) = some r := H
  have A4 := Aside0.mk A40
  clear A40
  by_cases c5 : t107 = true
  · subst c5
    have H1 : (if a1 < 1 then (some 0) else ((retry_tick.f a2 0).bind fun t108 => (if t108 = true then (if 0 ≤ (wrap64 ((mn a1 (l0.length : Int)) - 1)) then (if (wrap64 ((mn a1 (l0.length : Int)) - 1)) < (l0.length : Int) then (some (mn (wrap64 (a2 + (rd l0 (wrap64 ((mn a1 (l0.length : Int)) - 1))))) 1099511627776)) else (none)) else (none)) else (some 0)))) = some r := by rw [if_pos rfl] at H; exact H
    clear H
    have H := H1
    clear H1
    by_cases c6 : a1 < 1
    · rw [if_pos c6] at H
      have c6b0 : decide (a1 < 1) = true := decide_eq_true c6
      clear c6
      obtain rfl := Option.some.inj H
      go_enter Try.func5, Try.ntmps5
      go_wp2_with (first | ((with_reducible refine gate_callee (f := 6) rfl ?_); refine goesL_ (some 8) rfl rfl Try.func6 (by kernel_rfl) rfl #[.slice A0 l0.length c0, .int .i64 1] rfl (by (try simp only [List.map_toArray, List.map_cons, List.map_nil]); first | done | rfl | (simp only [List.length_drop, List.length_take]; rfl)) ?_; (with_reducible refine (retry_Right.calls k _ _ l0 1 true _ ?side1 ?side2 A4.out).mono ?_); (case side1 => repeat (first | exact HR0.out | (with_reducible refine Kd.C_alloc ?_ _) | (with_reducible refine Kd.C_drewN ?_ _) | (with_reducible refine Kd.C_drew ?_))); (case side2 => exact HC0.out); rintro e w' ⟨rfl, ⟨nd, rfl⟩⟩; refine ⟨_, rfl, ?_⟩))
      go_ret
      exact ⟨by first | rfl | (simp [errW_none, errW_some] <;> rfl) | (simp [*, errW_none, errW_some] <;> rfl), by repeat (first | (with_reducible first | exact HB.out | apply below_alloc | apply pw_below_drewN | apply below_drew1) | exact HB.out)⟩
    · rw [if_neg c6] at H
      have c6b0 : decide (a1 < 1) = false := decide_eq_false c6
      clear c6
      replace H := Option.bind_eq_some_iff.mp H
      obtain ⟨t108, A70, H⟩ := H
      replace H : (if t108 = true then (if 0 ≤ (wrap64 ((mn a1 (l0.length : Int)) - 1)) then (if (wrap64 ((mn a1 (l0.length : Int)) - 1)) < (l0.length : Int) then (some (mn (wrap64 (a2 + (rd l0 (wrap64 ((mn a1 (l0.length : Int)) - 1))))) 1099511627776)) else (none)) else (none)) else (some 0)) = some r := H
      have A7 := Aside0.mk A70
      clear A70
      by_cases c8 : t108 = true
      · subst c8
        have H1 : (if 0 ≤ (wrap64 ((mn a1 (l0.length : Int)) - 1)) then (if (wrap64 ((mn a1 (l0.length : Int)) - 1)) < (l0.length : Int) then (some (mn (wrap64 (a2 + (rd l0 (wrap64 ((mn a1 (l0.length : Int)) - 1))))) 1099511627776)) else (none)) else (none)) = some r := by rw [if_pos rfl] at H; exact H
        clear H
        have H := H1
        clear H1
        obtain ⟨ji9, hji9⟩ : ∃ j_ : Int, (mn a1 (l0.length : Int)) = j_ := ⟨_, rfl⟩
        replace H : (if 0 ≤ (wrap64 ((ji9) - 1)) then (if (wrap64 ((ji9) - 1)) < (l0.length : Int) then (some (mn (wrap64 (a2 + (rd l0 (wrap64 ((ji9) - 1))))) 1099511627776)) else (none)) else (none)) = some r := by first | (rw [hji9] at H; exact H) | (simp only [hji9] at H ⊢; exact H)
        (try rw [hji9] at A4)
        (try rw [hji9] at A7)
        have hji9_ : (if (l0.length : Int) < a1 then (l0.length : Int) else a1) = ji9 := hji9
        obtain ⟨ji10, hji10⟩ : ∃ j_ : Int, (wrap64 ((ji9) - 1)) = j_ := ⟨_, rfl⟩
        replace H : (if 0 ≤ (ji10) then (if (ji10) < (l0.length : Int) then (some (mn (wrap64 (a2 + (rd l0 (ji10)))) 1099511627776)) else (none)) else (none)) = some r := by first | (rw [hji10] at H; exact H) | (simp only [hji10] at H ⊢; exact H)
        (try rw [hji10] at A4)
        (try rw [hji10] at A7)
        have hji10w : (IntKind.i64.wrap ((ji9) - 1)) = ji10 := (i64_w _).trans hji10
        by_cases c11 : 0 ≤ (ji10)
        · rw [if_pos c11] at H
          have c11b0 : decide (0 ≤ (ji10)) = true := decide_eq_true c11
          clear c11
          by_cases c12 : (ji10) < (l0.length : Int)
          · rw [if_pos c12] at H
            have c12b0 : decide ((ji10) < (l0.length : Int)) = true := decide_eq_true c12
            clear c12
            obtain ⟨ji13, hji13⟩ : ∃ j_ : Int, (mn (wrap64 (a2 + (rd l0 (ji10)))) 1099511627776) = j_ := ⟨_, rfl⟩
            replace H : (some ji13) = some r := by first | (rw [hji13] at H; exact H) | (simp only [hji13] at H ⊢; exact H)
            (try rw [hji13] at A4)
            (try rw [hji13] at A7)
            have hji13_ : (if 1099511627776 < (wrap64 (a2 + (rd l0 (ji10)))) then 1099511627776 else (wrap64 (a2 + (rd l0 (ji10))))) = ji13 := hji13
            obtain rfl := Option.some.inj H
            go_enter Try.func5, Try.ntmps5
            go_wp2_with (first | ((with_reducible refine gate_callee (f := 6) rfl ?_); refine goesL_ (some 8) rfl rfl Try.func6 (by kernel_rfl) rfl #[.slice A0 l0.length c0, .int .i64 1] rfl (by (try simp only [List.map_toArray, List.map_cons, List.map_nil]); first | done | rfl | (simp only [List.length_drop, List.length_take]; rfl)) ?_; (with_reducible refine (retry_Right.calls k _ _ l0 1 true _ ?side1 ?side2 A4.out).mono ?_); (case side1 => repeat (first | exact HR0.out | (with_reducible refine Kd.C_alloc ?_ _) | (with_reducible refine Kd.C_drewN ?_ _) | (with_reducible refine Kd.C_drew ?_))); (case side2 => exact HC0.out); rintro e w' ⟨rfl, ⟨nd, rfl⟩⟩; refine ⟨_, rfl, ?_⟩) | (go_at_call 10; (with_reducible refine (retry_tick.calls a2 0 true _ A7.out).mono ?_); rintro e w' ⟨rfl, ⟨nd, rfl⟩⟩; have p109 : 0 ≤ ((ji10) : Int) := of_decide_eq_true (by first | (with_reducible assumption) | assumption); have q109 : (ji10) < (l0.length : Int) := of_decide_eq_true (by first | (with_reducible assumption) | assumption); obtain ⟨ad109, e109, hx109_0⟩ := Kd.at_int HR0.out (ji10) p109 q109; cases e109; replace p109 := eq_true p109; replace q109 := eq_true q109))
            go_ret
            exact ⟨by first | rfl | (simp [errW_none, errW_some] <;> rfl) | (simp only [← hji9, ← hji10, ← hji13]; first | rfl | (simp [errW_none, errW_some] <;> rfl)) | (simp [*, errW_none, errW_some] <;> rfl), by repeat (first | (with_reducible first | exact HB.out | apply below_alloc | apply pw_below_drewN | apply below_drew1) | exact HB.out)⟩
          · rw [if_neg c12] at H
            exact absurd H (by simp)
        · rw [if_neg c11] at H
          exact absurd H (by simp)
      · replace c8 := Bool.eq_false_iff.mpr c8
        subst c8
        have H1 : (some 0) = some r := by rw [if_neg (show ¬ (false = true) by decide)] at H; exact H
        clear H
        have H := H1
        clear H1
        obtain rfl := Option.some.inj H
        go_enter Try.func5, Try.ntmps5
        go_wp2_with (first | ((with_reducible refine gate_callee (f := 6) rfl ?_); refine goesL_ (some 8) rfl rfl Try.func6 (by kernel_rfl) rfl #[.slice A0 l0.length c0, .int .i64 1] rfl (by (try simp only [List.map_toArray, List.map_cons, List.map_nil]); first | done | rfl | (simp only [List.length_drop, List.length_take]; rfl)) ?_; (with_reducible refine (retry_Right.calls k _ _ l0 1 true _ ?side1 ?side2 A4.out).mono ?_); (case side1 => repeat (first | exact HR0.out | (with_reducible refine Kd.C_alloc ?_ _) | (with_reducible refine Kd.C_drewN ?_ _) | (with_reducible refine Kd.C_drew ?_))); (case side2 => exact HC0.out); rintro e w' ⟨rfl, ⟨nd, rfl⟩⟩; refine ⟨_, rfl, ?_⟩) | (go_at_call 10; (with_reducible refine (retry_tick.calls a2 0 false _ A7.out).mono ?_); rintro e w' ⟨rfl, ⟨nd, rfl⟩⟩))
        go_ret
        exact ⟨by first | rfl | (simp [errW_none, errW_some] <;> rfl) | (simp [*, errW_none, errW_some] <;> rfl), by repeat (first | (with_reducible first | exact HB.out | apply below_alloc | apply pw_below_drewN | apply below_drew1) | exact HB.out)⟩
  · replace c5 := Bool.eq_false_iff.mpr c5
    subst c5
    have H1 : (some 0) = some r := by rw [if_neg (show ¬ (false = true) by decide)] at H; exact H
    clear H
    have H := H1
    clear H1
    obtain rfl := Option.some.inj H
    go_enter Try.func5, Try.ntmps5
    go_wp2_with (first | ((with_reducible refine gate_callee (f := 6) rfl ?_); refine goesL_ (some 8) rfl rfl Try.func6 (by kernel_rfl) rfl #[.slice A0 l0.length c0, .int .i64 1] rfl (by (try simp only [List.map_toArray, List.map_cons, List.map_nil]); first | done | rfl | (simp only [List.length_drop, List.length_take]; rfl)) ?_; (with_reducible refine (retry_Right.calls k _ _ l0 1 false _ ?side1 ?side2 A4.out).mono ?_); (case side1 => repeat (first | exact HR0.out | (with_reducible refine Kd.C_alloc ?_ _) | (with_reducible refine Kd.C_drewN ?_ _) | (with_reducible refine Kd.C_drew ?_))); (case side2 => exact HC0.out); rintro e w' ⟨rfl, ⟨nd, rfl⟩⟩; refine ⟨_, rfl, ?_⟩))
    go_ret
    exact ⟨by first | rfl | (simp [errW_none, errW_some] <;> rfl) | (simp [*, errW_none, errW_some] <;> rfl), by repeat (first | (with_reducible first | exact HB.out | apply below_alloc | apply pw_below_drewN | apply below_drew1) | exact HB.out)⟩

end Go.Proofs.Ytamldcgajgkjeaa.QRetry
