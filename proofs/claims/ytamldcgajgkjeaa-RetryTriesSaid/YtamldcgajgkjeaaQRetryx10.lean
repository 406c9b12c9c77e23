-- WRITTEN BY A PROGRAM of this session (wip/myprint), out of the translation; Lean checks it.
import Derived.Test.YtamldcgajgkjeaaQRetryx0
import Derived.Test.YtamldcgajgkjeaaQRetryx4
import Derived.Test.YtamldcgajgkjeaaQRetryx5
import Derived.Test.YtamldcgajgkjeaaQRetryx6
import Derived.Test.YtamldcgajgkjeaaQRetryx9
namespace Go.Proofs.Ytamldcgajgkjeaa.QRetry
open Go.RowKit Go.Proofs.YtamldcgajgkjeaaW.PrintWords Go.Proofs.YtamldcgajgkjeaaW.PrintLast Go.Proofs.YtamldcgajgkjeaaW.PrintMore
attribute [local go_sem] max2_int min2_int max_two min_two max_three min_three max_four min_four   -- for this text's walks alone
set_option linter.unusedVariables false
set_option linter.unusedSimpArgs false

/-! ### frankinglaw28_RetryDue: function 3 -/
mutual
def frankinglaw28_RetryDue.j0 : Nat → List Int → Int → Int → Int → Bool → Option (Bool)
  | 0, _, _, _, _, _ => none
  | k + 1, x0, x1, x2, x7, x27 => if x27 = true then (if x7 = 0 then ((retry_Most.f k x0 0).bind fun t203 => (if t203 = 0 then ((frankinglaw28_awake.f k).bind fun t204 => (some t204)) else (some false))) else (some false)) else (if 0 ≤ (wrap64 ((mn x1 (x0.length : Int)) - 1)) then (if (wrap64 ((mn x1 (x0.length : Int)) - 1)) < (x0.length : Int) then (if x7 < x2 then (frankinglaw28_RetryDue.j1 k x0 x1 x2 x7 true) else (if x7 > 1099511627776 then (frankinglaw28_RetryDue.j1 k x0 x1 x2 x7 true) else (if (wrap64 (x7 - x2)) > (rd x0 (wrap64 ((mn x1 (x0.length : Int)) - 1))) then (frankinglaw28_RetryDue.j1 k x0 x1 x2 x7 true) else (if x7 < 1099511627776 then (if (wrap64 (x7 - x2)) = (rd x0 (wrap64 ((mn x1 (x0.length : Int)) - 1))) then ((retry_Due.f k x0 (x0.length : Int) x2).bind fun t206 => ((retry_Due.f k x0 1099511627776 x2).bind fun t207 => (frankinglaw28_RetryDue.j1 k x0 x1 x2 x7 (t206 != t207)))) else (frankinglaw28_RetryDue.j1 k x0 x1 x2 x7 true)) else ((retry_Due.f k x0 (x0.length : Int) x2).bind fun t208 => ((retry_Due.f k x0 1099511627776 x2).bind fun t209 => (frankinglaw28_RetryDue.j1 k x0 x1 x2 x7 (t208 != t209)))))))) else (none)) else (none))
def frankinglaw28_RetryDue.j1 : Nat → List Int → Int → Int → Int → Bool → Option (Bool)
  | 0, _, _, _, _, _ => none
  | k + 1, x0, x1, x2, x7, x81 => if x81 = true then (some false) else (if x2 = 1099511627776 then ((frankinglaw28_awake.f k).bind fun t210 => (some t210)) else ((retry_Due.f k x0 x1 (wrap64 (x2 + 1))).bind fun t211 => (if t211 ≥ x7 then ((frankinglaw28_awake.f k).bind fun t212 => (some t212)) else (some false))))
end
def frankinglaw28_RetryDue.f (k : Nat) (l0 : List Int) (a1 : Int) (a2 : Int) : Option (Bool) := (retry_Due.f k l0 a1 a2).bind fun t201 => ((retry_Right.f k l0 1).bind fun t202 => (if t202 = true then (if a1 < 1 then (frankinglaw28_RetryDue.j0 k l0 a1 a2 t201 true) else (if a2 < 0 then (frankinglaw28_RetryDue.j0 k l0 a1 a2 t201 true) else (frankinglaw28_RetryDue.j0 k l0 a1 a2 t201 (decide (a2 > 1099511627776))))) else (frankinglaw28_RetryDue.j0 k l0 a1 a2 t201 true)))
theorem frankinglaw28_RetryDue.mono_l : ∀ k, (∀ y0 y1 y2 y3 y4, LeO (frankinglaw28_RetryDue.j0 k y0 y1 y2 y3 y4) (frankinglaw28_RetryDue.j0 (k + 1) y0 y1 y2 y3 y4)) ∧ (∀ y0 y1 y2 y3 y4, LeO (frankinglaw28_RetryDue.j1 k y0 y1 y2 y3 y4) (frankinglaw28_RetryDue.j1 (k + 1) y0 y1 y2 y3 y4))
  | 0 => ⟨fun _ _ _ _ _ r h => by simp [frankinglaw28_RetryDue.j0] at h, fun _ _ _ _ _ r h => by simp [frankinglaw28_RetryDue.j1] at h⟩
  | k + 1 => by
    obtain ⟨ih0, ih1⟩ := frankinglaw28_RetryDue.mono_l k
    refine ⟨?_, ?_⟩
    · intro y0 y1 y2 y3 y4
      unfold frankinglaw28_RetryDue.j0
      repeat' first
      | (with_reducible exact ih0 _ _ _ _ _)
      | (with_reducible exact ih1 _ _ _ _ _)
      | (with_reducible exact frankinglaw28_awake.mono _)
      | (with_reducible exact retry_Due.mono _ _ _ _)
      | (with_reducible exact retry_Most.mono _ _ _)
      | (with_reducible exact retry_Right.mono _ _ _)
      | (with_reducible exact LeO.refl _)
      | (with_reducible exact LeO.none _)
      | (with_reducible refine LeO.ite ?_ ?_)
      | (with_reducible refine LeO.bind ?_ (fun _ => ?_))
      | exact ih0 _ _ _ _ _
      | exact ih1 _ _ _ _ _
      | exact frankinglaw28_awake.mono _
      | exact retry_Due.mono _ _ _ _
      | exact retry_Most.mono _ _ _
      | exact retry_Right.mono _ _ _
      | exact LeO.none _
      | refine LeO.ite ?_ ?_
      | refine LeO.bind ?_ (fun _ => ?_)
    · intro y0 y1 y2 y3 y4
      unfold frankinglaw28_RetryDue.j1
      repeat' first
      | (with_reducible exact ih0 _ _ _ _ _)
      | (with_reducible exact ih1 _ _ _ _ _)
      | (with_reducible exact frankinglaw28_awake.mono _)
      | (with_reducible exact retry_Due.mono _ _ _ _)
      | (with_reducible exact retry_Most.mono _ _ _)
      | (with_reducible exact retry_Right.mono _ _ _)
      | (with_reducible exact LeO.refl _)
      | (with_reducible exact LeO.none _)
      | (with_reducible refine LeO.ite ?_ ?_)
      | (with_reducible refine LeO.bind ?_ (fun _ => ?_))
      | exact ih0 _ _ _ _ _
      | exact ih1 _ _ _ _ _
      | exact frankinglaw28_awake.mono _
      | exact retry_Due.mono _ _ _ _
      | exact retry_Most.mono _ _ _
      | exact retry_Right.mono _ _ _
      | exact LeO.none _
      | refine LeO.ite ?_ ?_
      | refine LeO.bind ?_ (fun _ => ?_)
theorem frankinglaw28_RetryDue.mono : ∀ a0 a1 a2 k, LeO (frankinglaw28_RetryDue.f k a0 a1 a2) (frankinglaw28_RetryDue.f (k + 1) a0 a1 a2) := by
  intro a0 a1 a2 k
  obtain ⟨ih0, ih1⟩ := frankinglaw28_RetryDue.mono_l k
  unfold frankinglaw28_RetryDue.f
  repeat' first
      | (with_reducible exact ih0 _ _ _ _ _)
      | (with_reducible exact ih1 _ _ _ _ _)
      | (with_reducible exact frankinglaw28_awake.mono _)
      | (with_reducible exact retry_Due.mono _ _ _ _)
      | (with_reducible exact retry_Most.mono _ _ _)
      | (with_reducible exact retry_Right.mono _ _ _)
      | (with_reducible exact LeO.refl _)
      | (with_reducible exact LeO.none _)
      | (with_reducible refine LeO.ite ?_ ?_)
      | (with_reducible refine LeO.bind ?_ (fun _ => ?_))
      | exact ih0 _ _ _ _ _
      | exact ih1 _ _ _ _ _
      | exact frankinglaw28_awake.mono _
      | exact retry_Due.mono _ _ _ _
      | exact retry_Most.mono _ _ _
      | exact retry_Right.mono _ _ _
      | exact LeO.none _
      | refine LeO.ite ?_ ?_
      | refine LeO.bind ?_ (fun _ => ?_)
set_option maxHeartbeats 8000000 in
set_option maxRecDepth 100000 in
theorem frankinglaw28_RetryDue.calls (k : Nat) (A0 : Option Addr) (c0 : Nat) (l0 : List Int) (a1 : Int) (a2 : Int) (r : Bool) (w : World) (hr0 : Kd.C (Kd.int .i64) w A0 l0.length l0) (hc0 : l0.length ≤ c0) (h : frankinglaw28_RetryDue.f k l0 a1 a2 = some r) :
    Calls Try.prog 3 #[.slice A0 l0.length c0, .int .i64 a1, .int .i64 a2] w fun e w' => e = .returned (.bool r) ∧ Below w.heap.size w w' := by
  have HR0 := Aside0.mk hr0
  have HC0 := Aside0.mk hc0
  clear hr0 hc0
  have HB := Aside0.mk (Below.refl w.heap.size w)
  have H : ((retry_Due.f k l0 a1 a2).bind fun t201 => ((retry_Right.f k l0 1).bind fun t202 => (if t202 = true then (if a1 < 1 then (frankinglaw28_RetryDue.j0 k l0 a1 a2 t201 true) else (if a2 < 0 then (frankinglaw28_RetryDue.j0 k l0 a1 a2 t201 true) else (frankinglaw28_RetryDue.j0 k l0 a1 a2 t201 (decide (a2 > 1099511627776))))) else (frankinglaw28_RetryDue.j0 k l0 a1 a2 t201 true)))) = some r := h
  clear h
  replace H := Option.bind_eq_some_iff.mp H
  obtain ⟨t201, A40, H⟩ := H
  replace H : ((retry_Right.f k l0 1).bind fun t202 => (if t202 = true then (if a1 < 1 then (frankinglaw28_RetryDue.j0 k l0 a1 a2 t201 true) else (if a2 < 0 then (frankinglaw28_RetryDue.j0 k l0 a1 a2 t201 true) else (frankinglaw28_RetryDue.j0 k l0 a1 a2 t201 (decide (a2 > 1099511627776))))) else (frankinglaw28_RetryDue.j0 k l0 a1 a2 t201 true))) = some r := H
  have A4 := Aside0.mk A40
  clear A40
  have HC5 := Aside0.mk H
  clear H
  go_enter Try.func3, Try.ntmps3
  go_upto_region 2 with (first | ((with_reducible refine gate_callee (f := 5) rfl ?_); refine goesL_ (some 12) rfl rfl Try.func5 (by kernel_rfl) rfl #[.slice A0 l0.length c0, .int .i64 a1, .int .i64 a2] rfl (by (try simp only [List.map_toArray, List.map_cons, List.map_nil]); first | done | rfl | (simp only [List.length_drop, List.length_take]; rfl)) ?_; (with_reducible refine (retry_Due.calls k _ _ l0 a1 a2 t201 _ ?side1 ?side2 A4.out).mono ?_); (case side1 => repeat (first | exact HR0.out | (with_reducible refine Kd.C_alloc ?_ _) | (with_reducible refine Kd.C_drewN ?_ _) | (with_reducible refine Kd.C_drew ?_))); (case side2 => exact HC0.out); rintro e w6 ⟨rfl, hb⟩; refine ⟨_, rfl, ?_⟩; have n0_ := Aside0.mk (below_step (by repeat (first | (with_reducible first | exact HB.out | apply below_alloc | apply pw_below_drewN | apply below_drew1) | exact HB.out)) hb); clear HB; have HB := n0_; clear n0_; (try clear hb); (try clear hb2); (try clear hk); (try clear hi)))
  (try simp only [Act.put, List.setIfInBounds_toArray, List.set_cons_zero, List.set_cons_succ])
  go_cut [27] (fun v27 wc => ∃ (kq : Nat) (x27_4 : Bool), v27 = .bool x27_4 ∧ Aside0 (frankinglaw28_RetryDue.j0 kq l0 a1 a2 t201 x27_4 = some r) ∧ Aside0 (kq ≤ k) ∧ Aside0 (Below w.heap.size w wc))
  case first =>
    have H := HC5.out
    clear HC5
    replace H := Option.bind_eq_some_iff.mp H
    obtain ⟨t202, A70, H⟩ := H
    replace H : (if t202 = true then (if a1 < 1 then (frankinglaw28_RetryDue.j0 k l0 a1 a2 t201 true) else (if a2 < 0 then (frankinglaw28_RetryDue.j0 k l0 a1 a2 t201 true) else (frankinglaw28_RetryDue.j0 k l0 a1 a2 t201 (decide (a2 > 1099511627776))))) else (frankinglaw28_RetryDue.j0 k l0 a1 a2 t201 true)) = some r := H
    have A7 := Aside0.mk A70
    clear A70
    by_cases c8 : t202 = true
    · subst c8
      have H1 : (if a1 < 1 then (frankinglaw28_RetryDue.j0 k l0 a1 a2 t201 true) else (if a2 < 0 then (frankinglaw28_RetryDue.j0 k l0 a1 a2 t201 true) else (frankinglaw28_RetryDue.j0 k l0 a1 a2 t201 (decide (a2 > 1099511627776))))) = some r := by rw [if_pos rfl] at H; exact H
      clear H
      have H := H1
      clear H1
      by_cases c9 : a1 < 1
      · rw [if_pos c9] at H
        have c9b0 : decide (a1 < 1) = true := decide_eq_true c9
        clear c9
        (first | rw [c9b0] | (simp only [i64_w, i32_w]; rw [c9b0]) | skip)
        have H' := Aside0.mk H
        clear H
        go_wp2_with (first | ((with_reducible refine gate_callee (f := 6) rfl ?_); refine goesL_ (some 14) rfl rfl Try.func6 (by kernel_rfl) rfl #[.slice A0 l0.length c0, .int .i64 1] rfl (by (try simp only [List.map_toArray, List.map_cons, List.map_nil]); first | done | rfl | (simp only [List.length_drop, List.length_take]; rfl)) ?_; (with_reducible refine (retry_Right.calls k _ _ l0 1 true _ ?side1 ?side2 A7.out).mono ?_); (case side1 => repeat (first | exact (Kd.C_below HR0.out HB.out) | (with_reducible refine Kd.C_alloc ?_ _) | (with_reducible refine Kd.C_drewN ?_ _) | (with_reducible refine Kd.C_drew ?_))); (case side2 => exact HC0.out); rintro e w' ⟨rfl, ⟨nd, rfl⟩⟩; refine ⟨_, rfl, ?_⟩))
        go_meet
        case rel => exact ⟨_, (true), (by first | rfl | (simp; done) | (simp [*]; done)), H', ⟨by first | omega | exact Nat.le_refl _⟩, ⟨by repeat (first | (with_reducible first | exact HB.out | apply below_alloc | apply pw_below_drewN | apply below_drew1) | exact HB.out)⟩⟩
      · rw [if_neg c9] at H
        have c9b0 : decide (a1 < 1) = false := decide_eq_false c9
        clear c9
        (first | rw [c9b0] | (simp only [i64_w, i32_w]; rw [c9b0]) | skip)
        by_cases c10 : a2 < 0
        · rw [if_pos c10] at H
          have c10b0 : decide (a2 < 0) = true := decide_eq_true c10
          clear c10
          have H' := Aside0.mk H
          clear H
          go_wp2_with (first | ((with_reducible refine gate_callee (f := 6) rfl ?_); refine goesL_ (some 14) rfl rfl Try.func6 (by kernel_rfl) rfl #[.slice A0 l0.length c0, .int .i64 1] rfl (by (try simp only [List.map_toArray, List.map_cons, List.map_nil]); first | done | rfl | (simp only [List.length_drop, List.length_take]; rfl)) ?_; (with_reducible refine (retry_Right.calls k _ _ l0 1 true _ ?side1 ?side2 A7.out).mono ?_); (case side1 => repeat (first | exact (Kd.C_below HR0.out HB.out) | (with_reducible refine Kd.C_alloc ?_ _) | (with_reducible refine Kd.C_drewN ?_ _) | (with_reducible refine Kd.C_drew ?_))); (case side2 => exact HC0.out); rintro e w' ⟨rfl, ⟨nd, rfl⟩⟩; refine ⟨_, rfl, ?_⟩))
          go_meet
          case rel => exact ⟨_, (true), (by first | rfl | (simp; done) | (simp [*]; done)), H', ⟨by first | omega | exact Nat.le_refl _⟩, ⟨by repeat (first | (with_reducible first | exact HB.out | apply below_alloc | apply pw_below_drewN | apply below_drew1) | exact HB.out)⟩⟩
        · rw [if_neg c10] at H
          have c10b0 : decide (a2 < 0) = false := decide_eq_false c10
          clear c10
          have H' := Aside0.mk H
          clear H
          go_wp2_with (first | ((with_reducible refine gate_callee (f := 6) rfl ?_); refine goesL_ (some 14) rfl rfl Try.func6 (by kernel_rfl) rfl #[.slice A0 l0.length c0, .int .i64 1] rfl (by (try simp only [List.map_toArray, List.map_cons, List.map_nil]); first | done | rfl | (simp only [List.length_drop, List.length_take]; rfl)) ?_; (with_reducible refine (retry_Right.calls k _ _ l0 1 true _ ?side1 ?side2 A7.out).mono ?_); (case side1 => repeat (first | exact (Kd.C_below HR0.out HB.out) | (with_reducible refine Kd.C_alloc ?_ _) | (with_reducible refine Kd.C_drewN ?_ _) | (with_reducible refine Kd.C_drew ?_))); (case side2 => exact HC0.out); rintro e w' ⟨rfl, ⟨nd, rfl⟩⟩; refine ⟨_, rfl, ?_⟩))
          go_meet
          case rel => exact ⟨_, (decide (a2 > 1099511627776)), (by first | rfl | (simp; done) | (simp [*]; done)), H', ⟨by first | omega | exact Nat.le_refl _⟩, ⟨by repeat (first | (with_reducible first | exact HB.out | apply below_alloc | apply pw_below_drewN | apply below_drew1) | exact HB.out)⟩⟩
    · replace c8 := Bool.eq_false_iff.mpr c8
      subst c8
      have H1 : (frankinglaw28_RetryDue.j0 k l0 a1 a2 t201 true) = some r := by rw [if_neg (show ¬ (false = true) by decide)] at H; exact H
      clear H
      have H := H1
      clear H1
      have H' := Aside0.mk H
      clear H
      go_wp2_with (first | ((with_reducible refine gate_callee (f := 6) rfl ?_); refine goesL_ (some 14) rfl rfl Try.func6 (by kernel_rfl) rfl #[.slice A0 l0.length c0, .int .i64 1] rfl (by (try simp only [List.map_toArray, List.map_cons, List.map_nil]); first | done | rfl | (simp only [List.length_drop, List.length_take]; rfl)) ?_; (with_reducible refine (retry_Right.calls k _ _ l0 1 false _ ?side1 ?side2 A7.out).mono ?_); (case side1 => repeat (first | exact (Kd.C_below HR0.out HB.out) | (with_reducible refine Kd.C_alloc ?_ _) | (with_reducible refine Kd.C_drewN ?_ _) | (with_reducible refine Kd.C_drew ?_))); (case side2 => exact HC0.out); rintro e w' ⟨rfl, ⟨nd, rfl⟩⟩; refine ⟨_, rfl, ?_⟩))
      go_meet
      case rel => exact ⟨_, (true), (by first | rfl | (simp; done) | (simp [*]; done)), H', ⟨by first | omega | exact Nat.le_refl _⟩, ⟨by repeat (first | (with_reducible first | exact HB.out | apply below_alloc | apply pw_below_drewN | apply below_drew1) | exact HB.out)⟩⟩
  case rest =>
    clear HC5
    try clear c1
    try clear p2
    try clear c3
    try clear c5
    try clear c6
    try clear c8
    try clear c9
    try clear c9b0
    try clear c10
    try clear c10b0
    obtain ⟨kq, x27_4, rfl, HA, HJ4, HB⟩ := hcut
    cases kq with
    | zero => exact absurd HA.out (by simp [frankinglaw28_RetryDue.j0])
    | succ kj4 =>
      have H := HA.out
      clear HA
      simp only [frankinglaw28_RetryDue.j0] at H
      by_cases c11 : x27_4 = true
      · subst c11
        have H1 : (if t201 = 0 then ((retry_Most.f kj4 l0 0).bind fun t203 => (if t203 = 0 then ((frankinglaw28_awake.f kj4).bind fun t204 => (some t204)) else (some false))) else (some false)) = some r := by rw [if_pos rfl] at H; exact H
        clear H
        have H := H1
        clear H1
        by_cases c12 : t201 = 0
        · rw [if_pos c12] at H
          have c12b0 : (t201 == 0) = true := beq_iff_eq.mpr c12
          have c12b1 : (t201 != 0) = false := bne_eq_false_iff_eq.mpr c12
          clear c12
          replace H := Option.bind_eq_some_iff.mp H
          obtain ⟨t203, A130, H⟩ := H
          replace H : (if t203 = 0 then ((frankinglaw28_awake.f kj4).bind fun t204 => (some t204)) else (some false)) = some r := H
          have A13 := Aside0.mk A130
          clear A130
          by_cases c14 : t203 = 0
          · rw [if_pos c14] at H
            have c14b0 : (t203 == 0) = true := beq_iff_eq.mpr c14
            have c14b1 : (t203 != 0) = false := bne_eq_false_iff_eq.mpr c14
            clear c14
            replace H := Option.bind_eq_some_iff.mp H
            obtain ⟨t204, A150, H⟩ := H
            replace H : (some t204) = some r := H
            have A15 := Aside0.mk A150
            clear A150
            obtain rfl := Option.some.inj H
            go_wp2_with (first | (go_at_call 7; (with_reducible refine (retry_Most.calls kj4 _ _ l0 0 t203 _ ?side1 ?side2 A13.out).mono ?_); (case side1 => repeat (first | exact (Kd.C_below HR0.out HB.out) | (with_reducible refine Kd.C_alloc ?_ _) | (with_reducible refine Kd.C_drewN ?_ _) | (with_reducible refine Kd.C_drew ?_))); (case side2 => exact HC0.out); rintro e w' ⟨rfl, ⟨nd, rfl⟩⟩) | (go_at_call 8; (with_reducible refine (frankinglaw28_awake.calls kj4  t204 _ A15.out).mono ?_); rintro e w16 ⟨rfl, hb⟩; have n0_ := Aside0.mk (below_step (by repeat (first | (with_reducible first | exact HB.out | apply below_alloc | apply pw_below_drewN | apply below_drew1) | exact HB.out)) hb); clear HB; have HB := n0_; clear n0_; (try clear hb); (try clear hb2); (try clear hk); (try clear hi)))
            go_ret
            exact ⟨by first | rfl | (simp [errW_none, errW_some] <;> rfl) | (simp [*, errW_none, errW_some] <;> rfl), by repeat (first | (with_reducible first | exact HB.out | apply below_alloc | apply pw_below_drewN | apply below_drew1) | exact HB.out)⟩
          · rw [if_neg c14] at H
            have c14b0 : (t203 == 0) = false := beq_eq_false_iff_ne.mpr c14
            have c14b1 : (t203 != 0) = true := bne_iff_ne.mpr c14
            obtain rfl := Option.some.inj H
            go_wp2_with (first | (go_at_call 7; (with_reducible refine (retry_Most.calls kj4 _ _ l0 0 t203 _ ?side1 ?side2 A13.out).mono ?_); (case side1 => repeat (first | exact (Kd.C_below HR0.out HB.out) | (with_reducible refine Kd.C_alloc ?_ _) | (with_reducible refine Kd.C_drewN ?_ _) | (with_reducible refine Kd.C_drew ?_))); (case side2 => exact HC0.out); rintro e w' ⟨rfl, ⟨nd, rfl⟩⟩))
            go_ret
            exact ⟨by first | rfl | (simp [errW_none, errW_some] <;> rfl) | (simp [*, errW_none, errW_some] <;> rfl), by repeat (first | (with_reducible first | exact HB.out | apply below_alloc | apply pw_below_drewN | apply below_drew1) | exact HB.out)⟩
        · rw [if_neg c12] at H
          have c12b0 : (t201 == 0) = false := beq_eq_false_iff_ne.mpr c12
          have c12b1 : (t201 != 0) = true := bne_iff_ne.mpr c12
          obtain rfl := Option.some.inj H
          go_wp2
          go_ret
          exact ⟨by first | rfl | (simp [errW_none, errW_some] <;> rfl) | (simp [*, errW_none, errW_some] <;> rfl), by repeat (first | (with_reducible first | exact HB.out | apply below_alloc | apply pw_below_drewN | apply below_drew1) | exact HB.out)⟩
      · replace c11 := Bool.eq_false_iff.mpr c11
        subst c11
        have H1 : (if 0 ≤ (wrap64 ((mn a1 (l0.length : Int)) - 1)) then (if (wrap64 ((mn a1 (l0.length : Int)) - 1)) < (l0.length : Int) then (if t201 < a2 then (frankinglaw28_RetryDue.j1 kj4 l0 a1 a2 t201 true) else (if t201 > 1099511627776 then (frankinglaw28_RetryDue.j1 kj4 l0 a1 a2 t201 true) else (if (wrap64 (t201 - a2)) > (rd l0 (wrap64 ((mn a1 (l0.length : Int)) - 1))) then (frankinglaw28_RetryDue.j1 kj4 l0 a1 a2 t201 true) else (if t201 < 1099511627776 then (if (wrap64 (t201 - a2)) = (rd l0 (wrap64 ((mn a1 (l0.length : Int)) - 1))) then ((retry_Due.f kj4 l0 (l0.length : Int) a2).bind fun t206 => ((retry_Due.f kj4 l0 1099511627776 a2).bind fun t207 => (frankinglaw28_RetryDue.j1 kj4 l0 a1 a2 t201 (t206 != t207)))) else (frankinglaw28_RetryDue.j1 kj4 l0 a1 a2 t201 true)) else ((retry_Due.f kj4 l0 (l0.length : Int) a2).bind fun t208 => ((retry_Due.f kj4 l0 1099511627776 a2).bind fun t209 => (frankinglaw28_RetryDue.j1 kj4 l0 a1 a2 t201 (t208 != t209)))))))) else (none)) else (none)) = some r := by rw [if_neg (show ¬ (false = true) by decide)] at H; exact H
        clear H
        have H := H1
        clear H1
        obtain ⟨ji17, hji17⟩ : ∃ j_ : Int, (mn a1 (l0.length : Int)) = j_ := ⟨_, rfl⟩
        replace H : (if 0 ≤ (wrap64 ((ji17) - 1)) then (if (wrap64 ((ji17) - 1)) < (l0.length : Int) then (if t201 < a2 then (frankinglaw28_RetryDue.j1 kj4 l0 a1 a2 t201 true) else (if t201 > 1099511627776 then (frankinglaw28_RetryDue.j1 kj4 l0 a1 a2 t201 true) else (if (wrap64 (t201 - a2)) > (rd l0 (wrap64 ((ji17) - 1))) then (frankinglaw28_RetryDue.j1 kj4 l0 a1 a2 t201 true) else (if t201 < 1099511627776 then (if (wrap64 (t201 - a2)) = (rd l0 (wrap64 ((ji17) - 1))) then ((retry_Due.f kj4 l0 (l0.length : Int) a2).bind fun t206 => ((retry_Due.f kj4 l0 1099511627776 a2).bind fun t207 => (frankinglaw28_RetryDue.j1 kj4 l0 a1 a2 t201 (t206 != t207)))) else (frankinglaw28_RetryDue.j1 kj4 l0 a1 a2 t201 true)) else ((retry_Due.f kj4 l0 (l0.length : Int) a2).bind fun t208 => ((retry_Due.f kj4 l0 1099511627776 a2).bind fun t209 => (frankinglaw28_RetryDue.j1 kj4 l0 a1 a2 t201 (t208 != t209)))))))) else (none)) else (none)) = some r := by first | (rw [hji17] at H; exact H) | (simp only [hji17] at H ⊢; exact H)
        have hji17_ : (if (l0.length : Int) < a1 then (l0.length : Int) else a1) = ji17 := hji17
        obtain ⟨ji18, hji18⟩ : ∃ j_ : Int, (wrap64 ((ji17) - 1)) = j_ := ⟨_, rfl⟩
        replace H : (if 0 ≤ (ji18) then (if (ji18) < (l0.length : Int) then (if t201 < a2 then (frankinglaw28_RetryDue.j1 kj4 l0 a1 a2 t201 true) else (if t201 > 1099511627776 then (frankinglaw28_RetryDue.j1 kj4 l0 a1 a2 t201 true) else (if (wrap64 (t201 - a2)) > (rd l0 (ji18)) then (frankinglaw28_RetryDue.j1 kj4 l0 a1 a2 t201 true) else (if t201 < 1099511627776 then (if (wrap64 (t201 - a2)) = (rd l0 (ji18)) then ((retry_Due.f kj4 l0 (l0.length : Int) a2).bind fun t206 => ((retry_Due.f kj4 l0 1099511627776 a2).bind fun t207 => (frankinglaw28_RetryDue.j1 kj4 l0 a1 a2 t201 (t206 != t207)))) else (frankinglaw28_RetryDue.j1 kj4 l0 a1 a2 t201 true)) else ((retry_Due.f kj4 l0 (l0.length : Int) a2).bind fun t208 => ((retry_Due.f kj4 l0 1099511627776 a2).bind fun t209 => (frankinglaw28_RetryDue.j1 kj4 l0 a1 a2 t201 (t208 != t209)))))))) else (none)) else (none)) = some r := by first | (rw [hji18] at H; exact H) | (simp only [hji18] at H ⊢; exact H)
        have hji18w : (IntKind.i64.wrap ((ji17) - 1)) = ji18 := (i64_w _).trans hji18
        by_cases c19 : 0 ≤ (ji18)
        · rw [if_pos c19] at H
          have c19b0 : decide (0 ≤ (ji18)) = true := decide_eq_true c19
          clear c19
          by_cases c20 : (ji18) < (l0.length : Int)
          · rw [if_pos c20] at H
            have c20b0 : decide ((ji18) < (l0.length : Int)) = true := decide_eq_true c20
            clear c20
            have HC21 := Aside0.mk H
            clear H
            have p205 : 0 ≤ ((ji18) : Int) := of_decide_eq_true (by first | (with_reducible assumption) | assumption)
            have q205 : (ji18) < (l0.length : Int) := of_decide_eq_true (by first | (with_reducible assumption) | assumption)
            obtain ⟨ad205, e205, hx205_0⟩ := Kd.at_int HR0.out (ji18) p205 q205
            cases e205
            replace hx205_0 := (HB.out.cell (World.block_lt_of_cell? w _ hx205_0)).trans hx205_0
            replace p205 := eq_true p205
            replace q205 := eq_true q205
            go_upto_region 5 with (fail)
            go_cut [81] (fun v81 wc => ∃ (kq : Nat) (x81_20 : Bool), v81 = .bool x81_20 ∧ Aside0 (frankinglaw28_RetryDue.j1 kq l0 a1 a2 t201 x81_20 = some r) ∧ Aside0 (kq ≤ kj4) ∧ Aside0 (Below w.heap.size w wc))
            case first =>
              have H := HC21.out
              clear HC21
              by_cases c22 : t201 < a2
              · rw [if_pos c22] at H
                have c22b0 : decide (t201 < a2) = true := decide_eq_true c22
                clear c22
                (first | rw [c22b0] | (simp only [i64_w, i32_w]; rw [c22b0]) | skip)
                have H' := Aside0.mk H
                clear H
                go_wp2
                go_meet
                case rel => exact ⟨_, (true), (by first | rfl | (simp; done) | (simp [*]; done)), H', ⟨by have := HJ4.out; first | omega | exact Nat.le_refl _⟩, ⟨by repeat (first | (with_reducible first | exact HB.out | apply below_alloc | apply pw_below_drewN | apply below_drew1) | exact HB.out)⟩⟩
              · rw [if_neg c22] at H
                have c22b0 : decide (t201 < a2) = false := decide_eq_false c22
                clear c22
                (first | rw [c22b0] | (simp only [i64_w, i32_w]; rw [c22b0]) | skip)
                by_cases c23 : t201 > 1099511627776
                · rw [if_pos c23] at H
                  have c23b0 : decide (1099511627776 < t201) = true := decide_eq_true c23
                  clear c23
                  have H' := Aside0.mk H
                  clear H
                  go_wp2
                  go_meet
                  case rel => exact ⟨_, (true), (by first | rfl | (simp; done) | (simp [*]; done)), H', ⟨by have := HJ4.out; first | omega | exact Nat.le_refl _⟩, ⟨by repeat (first | (with_reducible first | exact HB.out | apply below_alloc | apply pw_below_drewN | apply below_drew1) | exact HB.out)⟩⟩
                · rw [if_neg c23] at H
                  have c23b0 : decide (1099511627776 < t201) = false := decide_eq_false c23
                  clear c23
                  by_cases c24 : (wrap64 (t201 - a2)) > (rd l0 (ji18))
                  · rw [if_pos c24] at H
                    have c24b0 : decide ((rd l0 (ji18)) < (wrap64 (t201 - a2))) = true := decide_eq_true c24
                    clear c24
                    have H' := Aside0.mk H
                    clear H
                    go_wp2
                    go_meet
                    case rel => exact ⟨_, (true), (by first | rfl | (simp; done) | (simp [*]; done)), H', ⟨by have := HJ4.out; first | omega | exact Nat.le_refl _⟩, ⟨by repeat (first | (with_reducible first | exact HB.out | apply below_alloc | apply pw_below_drewN | apply below_drew1) | exact HB.out)⟩⟩
                  · rw [if_neg c24] at H
                    have c24b0 : decide ((rd l0 (ji18)) < (wrap64 (t201 - a2))) = false := decide_eq_false c24
                    clear c24
                    by_cases c25 : t201 < 1099511627776
                    · rw [if_pos c25] at H
                      have c25b0 : decide (t201 < 1099511627776) = true := decide_eq_true c25
                      clear c25
                      by_cases c26 : (wrap64 (t201 - a2)) = (rd l0 (ji18))
                      · rw [if_pos c26] at H
                        have c26b0 : ((wrap64 (t201 - a2)) == (rd l0 (ji18))) = true := beq_iff_eq.mpr c26
                        have c26b1 : ((wrap64 (t201 - a2)) != (rd l0 (ji18))) = false := bne_eq_false_iff_eq.mpr c26
                        clear c26
                        replace H := Option.bind_eq_some_iff.mp H
                        obtain ⟨t206, A270, H⟩ := H
                        replace H : ((retry_Due.f kj4 l0 1099511627776 a2).bind fun t207 => (frankinglaw28_RetryDue.j1 kj4 l0 a1 a2 t201 (t206 != t207))) = some r := H
                        have A27 := Aside0.mk A270
                        clear A270
                        replace H := Option.bind_eq_some_iff.mp H
                        obtain ⟨t207, A280, H⟩ := H
                        replace H : (frankinglaw28_RetryDue.j1 kj4 l0 a1 a2 t201 (t206 != t207)) = some r := H
                        have A28 := Aside0.mk A280
                        clear A280
                        have H' := Aside0.mk H
                        clear H
                        go_wp2_with (first | (go_at_call 5; (with_reducible refine (retry_Due.calls kj4 _ _ l0 (l0.length : Int) a2 t206 _ ?side1 ?side2 A27.out).mono ?_); (case side1 => repeat (first | exact (Kd.C_below HR0.out HB.out) | (with_reducible refine Kd.C_alloc ?_ _) | (with_reducible refine Kd.C_drewN ?_ _) | (with_reducible refine Kd.C_drew ?_))); (case side2 => exact HC0.out); rintro e w29 ⟨rfl, hb⟩; have n0_ := Aside0.mk (below_step (by repeat (first | (with_reducible first | exact HB.out | apply below_alloc | apply pw_below_drewN | apply below_drew1) | exact HB.out)) hb); clear HB; have HB := n0_; clear n0_; (try clear hb); (try clear hb2); (try clear hk); (try clear hi)) | (go_at_call 5; (with_reducible refine (retry_Due.calls kj4 _ _ l0 1099511627776 a2 t207 _ ?side1 ?side2 A28.out).mono ?_); (case side1 => repeat (first | exact (Kd.C_below HR0.out HB.out) | (with_reducible refine Kd.C_alloc ?_ _) | (with_reducible refine Kd.C_drewN ?_ _) | (with_reducible refine Kd.C_drew ?_))); (case side2 => exact HC0.out); rintro e w30 ⟨rfl, hb⟩; have n0_ := Aside0.mk (below_step (by repeat (first | (with_reducible first | exact HB.out | apply below_alloc | apply pw_below_drewN | apply below_drew1) | exact HB.out)) hb); clear HB; have HB := n0_; clear n0_; (try clear hb); (try clear hb2); (try clear hk); (try clear hi)))
                        go_meet
                        case rel => exact ⟨_, ((t206 != t207)), (by first | rfl | (simp; done) | (simp [*]; done)), H', ⟨by have := HJ4.out; first | omega | exact Nat.le_refl _⟩, ⟨by repeat (first | (with_reducible first | exact HB.out | apply below_alloc | apply pw_below_drewN | apply below_drew1) | exact HB.out)⟩⟩
                      · rw [if_neg c26] at H
                        have c26b0 : ((wrap64 (t201 - a2)) == (rd l0 (ji18))) = false := beq_eq_false_iff_ne.mpr c26
                        have c26b1 : ((wrap64 (t201 - a2)) != (rd l0 (ji18))) = true := bne_iff_ne.mpr c26
                        have H' := Aside0.mk H
                        clear H
                        go_wp2
                        go_meet
                        case rel => exact ⟨_, (true), (by first | rfl | (simp; done) | (simp [*]; done)), H', ⟨by have := HJ4.out; first | omega | exact Nat.le_refl _⟩, ⟨by repeat (first | (with_reducible first | exact HB.out | apply below_alloc | apply pw_below_drewN | apply below_drew1) | exact HB.out)⟩⟩
                    · rw [if_neg c25] at H
                      have c25b0 : decide (t201 < 1099511627776) = false := decide_eq_false c25
                      clear c25
                      replace H := Option.bind_eq_some_iff.mp H
                      obtain ⟨t208, A310, H⟩ := H
                      replace H : ((retry_Due.f kj4 l0 1099511627776 a2).bind fun t209 => (frankinglaw28_RetryDue.j1 kj4 l0 a1 a2 t201 (t208 != t209))) = some r := H
                      have A31 := Aside0.mk A310
                      clear A310
                      replace H := Option.bind_eq_some_iff.mp H
                      obtain ⟨t209, A320, H⟩ := H
                      replace H : (frankinglaw28_RetryDue.j1 kj4 l0 a1 a2 t201 (t208 != t209)) = some r := H
                      have A32 := Aside0.mk A320
                      clear A320
                      have H' := Aside0.mk H
                      clear H
                      go_wp2_with (first | (go_at_call 5; (with_reducible refine (retry_Due.calls kj4 _ _ l0 (l0.length : Int) a2 t208 _ ?side1 ?side2 A31.out).mono ?_); (case side1 => repeat (first | exact (Kd.C_below HR0.out HB.out) | (with_reducible refine Kd.C_alloc ?_ _) | (with_reducible refine Kd.C_drewN ?_ _) | (with_reducible refine Kd.C_drew ?_))); (case side2 => exact HC0.out); rintro e w33 ⟨rfl, hb⟩; have n0_ := Aside0.mk (below_step (by repeat (first | (with_reducible first | exact HB.out | apply below_alloc | apply pw_below_drewN | apply below_drew1) | exact HB.out)) hb); clear HB; have HB := n0_; clear n0_; (try clear hb); (try clear hb2); (try clear hk); (try clear hi)) | (go_at_call 5; (with_reducible refine (retry_Due.calls kj4 _ _ l0 1099511627776 a2 t209 _ ?side1 ?side2 A32.out).mono ?_); (case side1 => repeat (first | exact (Kd.C_below HR0.out HB.out) | (with_reducible refine Kd.C_alloc ?_ _) | (with_reducible refine Kd.C_drewN ?_ _) | (with_reducible refine Kd.C_drew ?_))); (case side2 => exact HC0.out); rintro e w34 ⟨rfl, hb⟩; have n0_ := Aside0.mk (below_step (by repeat (first | (with_reducible first | exact HB.out | apply below_alloc | apply pw_below_drewN | apply below_drew1) | exact HB.out)) hb); clear HB; have HB := n0_; clear n0_; (try clear hb); (try clear hb2); (try clear hk); (try clear hi)))
                      go_meet
                      case rel => exact ⟨_, ((t208 != t209)), (by first | rfl | (simp; done) | (simp [*]; done)), H', ⟨by have := HJ4.out; first | omega | exact Nat.le_refl _⟩, ⟨by repeat (first | (with_reducible first | exact HB.out | apply below_alloc | apply pw_below_drewN | apply below_drew1) | exact HB.out)⟩⟩
            case rest =>
              clear HC21
              try clear c1
              try clear c2
              try clear p2
              try clear q2
              try clear hx2
              try clear c3
              try clear c5
              try clear c6
              try clear p6
              try clear c8
              try clear c9
              try clear c9b0
              try clear c10
              try clear c10b0
              try clear c11
              try clear c12
              try clear c12b0
              try clear c12b1
              try clear c14
              try clear c14b0
              try clear c14b1
              try clear c19
              try clear c19b0
              try clear c20
              try clear c20b0
              try clear p20
              try clear q20
              try clear hx20
              try clear c22
              try clear c22b0
              try clear c23
              try clear c23b0
              try clear c24
              try clear c24b0
              try clear c25
              try clear c25b0
              try clear c26
              try clear c26b0
              try clear c26b1
              try clear hx205_0
              try clear p2
              try clear p205
              try clear q205
              obtain ⟨kq, x81_20, rfl, HA, HJ20, HB⟩ := hcut
              cases kq with
              | zero => exact absurd HA.out (by simp [frankinglaw28_RetryDue.j1])
              | succ kj20 =>
                have H := HA.out
                clear HA
                simp only [frankinglaw28_RetryDue.j1] at H
                by_cases c35 : x81_20 = true
                · subst c35
                  have H1 : (some false) = some r := by rw [if_pos rfl] at H; exact H
                  clear H
                  have H := H1
                  clear H1
                  obtain rfl := Option.some.inj H
                  go_wp2
                  go_ret
                  exact ⟨by first | rfl | (simp [errW_none, errW_some] <;> rfl) | (simp only [← hji17, ← hji18]; first | rfl | (simp [errW_none, errW_some] <;> rfl)) | (simp [*, errW_none, errW_some] <;> rfl), by repeat (first | (with_reducible first | exact HB.out | apply below_alloc | apply pw_below_drewN | apply below_drew1) | exact HB.out)⟩
                · replace c35 := Bool.eq_false_iff.mpr c35
                  subst c35
                  have H1 : (if a2 = 1099511627776 then ((frankinglaw28_awake.f kj20).bind fun t210 => (some t210)) else ((retry_Due.f kj20 l0 a1 (wrap64 (a2 + 1))).bind fun t211 => (if t211 ≥ t201 then ((frankinglaw28_awake.f kj20).bind fun t212 => (some t212)) else (some false)))) = some r := by rw [if_neg (show ¬ (false = true) by decide)] at H; exact H
                  clear H
                  have H := H1
                  clear H1
                  by_cases c36 : a2 = 1099511627776
                  · rw [if_pos c36] at H
                    have c36b0 : (a2 == 1099511627776) = true := beq_iff_eq.mpr c36
                    have c36b1 : (a2 != 1099511627776) = false := bne_eq_false_iff_eq.mpr c36
                    clear c36
                    replace H := Option.bind_eq_some_iff.mp H
                    obtain ⟨t210, A370, H⟩ := H
                    replace H : (some t210) = some r := H
                    have A37 := Aside0.mk A370
                    clear A370
                    obtain rfl := Option.some.inj H
                    go_wp2_with (first | (go_at_call 8; (with_reducible refine (frankinglaw28_awake.calls kj20  t210 _ A37.out).mono ?_); rintro e w38 ⟨rfl, hb⟩; have n0_ := Aside0.mk (below_step (by repeat (first | (with_reducible first | exact HB.out | apply below_alloc | apply pw_below_drewN | apply below_drew1) | exact HB.out)) hb); clear HB; have HB := n0_; clear n0_; (try clear hb); (try clear hb2); (try clear hk); (try clear hi)))
                    go_ret
                    exact ⟨by first | rfl | (simp [errW_none, errW_some] <;> rfl) | (simp only [← hji17, ← hji18]; first | rfl | (simp [errW_none, errW_some] <;> rfl)) | (simp [*, errW_none, errW_some] <;> rfl), by repeat (first | (with_reducible first | exact HB.out | apply below_alloc | apply pw_below_drewN | apply below_drew1) | exact HB.out)⟩
                  · rw [if_neg c36] at H
                    have c36b0 : (a2 == 1099511627776) = false := beq_eq_false_iff_ne.mpr c36
                    have c36b1 : (a2 != 1099511627776) = true := bne_iff_ne.mpr c36
                    replace H := Option.bind_eq_some_iff.mp H
                    obtain ⟨t211, A390, H⟩ := H
                    replace H : (if t211 ≥ t201 then ((frankinglaw28_awake.f kj20).bind fun t212 => (some t212)) else (some false)) = some r := H
                    have A39 := Aside0.mk A390
                    clear A390
                    by_cases c40 : t211 ≥ t201
                    · rw [if_pos c40] at H
                      have c40b0 : decide (t201 ≤ t211) = true := decide_eq_true c40
                      clear c40
                      replace H := Option.bind_eq_some_iff.mp H
                      obtain ⟨t212, A410, H⟩ := H
                      replace H : (some t212) = some r := H
                      have A41 := Aside0.mk A410
                      clear A410
                      obtain rfl := Option.some.inj H
                      go_wp2_with (first | (go_at_call 5; (with_reducible refine (retry_Due.calls kj20 _ _ l0 a1 (wrap64 (a2 + 1)) t211 _ ?side1 ?side2 A39.out).mono ?_); (case side1 => repeat (first | exact (Kd.C_below HR0.out HB.out) | (with_reducible refine Kd.C_alloc ?_ _) | (with_reducible refine Kd.C_drewN ?_ _) | (with_reducible refine Kd.C_drew ?_))); (case side2 => exact HC0.out); rintro e w42 ⟨rfl, hb⟩; have n0_ := Aside0.mk (below_step (by repeat (first | (with_reducible first | exact HB.out | apply below_alloc | apply pw_below_drewN | apply below_drew1) | exact HB.out)) hb); clear HB; have HB := n0_; clear n0_; (try clear hb); (try clear hb2); (try clear hk); (try clear hi)) | (go_at_call 8; (with_reducible refine (frankinglaw28_awake.calls kj20  t212 _ A41.out).mono ?_); rintro e w43 ⟨rfl, hb⟩; have n0_ := Aside0.mk (below_step (by repeat (first | (with_reducible first | exact HB.out | apply below_alloc | apply pw_below_drewN | apply below_drew1) | exact HB.out)) hb); clear HB; have HB := n0_; clear n0_; (try clear hb); (try clear hb2); (try clear hk); (try clear hi)))
                      go_ret
                      exact ⟨by first | rfl | (simp [errW_none, errW_some] <;> rfl) | (simp only [← hji17, ← hji18]; first | rfl | (simp [errW_none, errW_some] <;> rfl)) | (simp [*, errW_none, errW_some] <;> rfl), by repeat (first | (with_reducible first | exact HB.out | apply below_alloc | apply pw_below_drewN | apply below_drew1) | exact HB.out)⟩
                    · rw [if_neg c40] at H
                      have c40b0 : decide (t201 ≤ t211) = false := decide_eq_false c40
                      clear c40
                      obtain rfl := Option.some.inj H
                      go_wp2_with (first | (go_at_call 5; (with_reducible refine (retry_Due.calls kj20 _ _ l0 a1 (wrap64 (a2 + 1)) t211 _ ?side1 ?side2 A39.out).mono ?_); (case side1 => repeat (first | exact (Kd.C_below HR0.out HB.out) | (with_reducible refine Kd.C_alloc ?_ _) | (with_reducible refine Kd.C_drewN ?_ _) | (with_reducible refine Kd.C_drew ?_))); (case side2 => exact HC0.out); rintro e w44 ⟨rfl, hb⟩; have n0_ := Aside0.mk (below_step (by repeat (first | (with_reducible first | exact HB.out | apply below_alloc | apply pw_below_drewN | apply below_drew1) | exact HB.out)) hb); clear HB; have HB := n0_; clear n0_; (try clear hb); (try clear hb2); (try clear hk); (try clear hi)))
                      go_ret
                      exact ⟨by first | rfl | (simp [errW_none, errW_some] <;> rfl) | (simp only [← hji17, ← hji18]; first | rfl | (simp [errW_none, errW_some] <;> rfl)) | (simp [*, errW_none, errW_some] <;> rfl), by repeat (first | (with_reducible first | exact HB.out | apply below_alloc | apply pw_below_drewN | apply below_drew1) | exact HB.out)⟩
          · rw [if_neg c20] at H
            exact absurd H (by simp)
        · rw [if_neg c19] at H
          exact absurd H (by simp)

/-- THE ONE PURE STATEMENT of frankinglaw28_RetryDue: yours. -/
def frankinglaw28_RetryDue.Pure : Prop := ∀ (l0 : List Int) (a1 : Int) (a2 : Int), l0.length ≤ maxLen → l0.length * 8 ≤ 140737488351232 → (∀ x ∈ l0, (Lit.int .i64 x).wf = true) → (Lit.int .i64 a1).wf = true → (Lit.int .i64 a2).wf = true → ∃ k, frankinglaw28_RetryDue.f k l0 a1 a2 = some true
theorem frankinglaw28_RetryDue.walk (P : frankinglaw28_RetryDue.Pure) (a0 : Option Addr) (len0 cap0 : Nat) (z0 : List Int) (a1 : Int) (a2 : Int) (w : World) (w0 : (a0 = none ∧ len0 = 0 ∧ cap0 = 0 ∧ z0 = []) ∨ ∃ x, a0 = some x ∧ len0 ≤ cap0 ∧ cap0 ≤ maxLen ∧ z0.length = cap0 ∧ (∀ i, i < z0.length → w.cell? (x.add i) = some (.int .i64 (z0.getD i 0))) ∧ ∀ n ∈ z0, (Lit.int .i64 n).wf = true) (y0 : len0 * 8 ≤ 140737488351232) (w1 : (Lit.int .i64 a1).wf = true) (w2 : (Lit.int .i64 a2).wf = true) :
    Calls Try.prog 3 #[.slice a0 len0 cap0, .int .i64 a1, .int .i64 a2] w fun e w' => e = .returned (.bool true) ∧ Below w.heap.size w w' := by
  obtain ⟨l0, rfl, hr0, hm0, hw0, hc0⟩ := ReadsInt.ofRowC w0
  obtain ⟨k, h⟩ := P l0 a1 a2 hm0 y0 hw0 w1 w2
  refine (frankinglaw28_RetryDue.calls k _ _ l0 a1 a2 true w (Kd.C_of_reads (d := (0 : Int)) (h1 := fun _ => rfl) hr0) hc0 h).mono ?_
  rintro e w' ⟨rfl, hd⟩
  exact ⟨rfl, hd⟩

end Go.Proofs.Ytamldcgajgkjeaa.QRetry
