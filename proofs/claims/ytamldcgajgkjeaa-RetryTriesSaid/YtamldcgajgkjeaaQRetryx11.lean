-- WRITTEN BY A PROGRAM of this session (wip/myprint), out of the translation; Lean checks it.
import Derived.Test.YtamldcgajgkjeaaQRetryx0
namespace Go.Proofs.Ytamldcgajgkjeaa.QRetry
open Go.RowKit Go.Proofs.YtamldcgajgkjeaaW.PrintWords Go.Proofs.YtamldcgajgkjeaaW.PrintLast Go.Proofs.YtamldcgajgkjeaaW.PrintMore
attribute [local go_sem] max2_int min2_int max_two min_two max_three min_three max_four min_four   -- for this text's walks alone
set_option linter.unusedVariables false
set_option linter.unusedSimpArgs false

/-! ### frankinglaw28_waitsOf: function 9 -/
def frankinglaw28_waitsOf.l0 : Nat → List Int → List Int → Int → Int → Option (List Int)
  | 0, _, _, _, _ => none
  | k + 1, x3, x11, x12, x13 => if x13 < x12 then (if 0 ≤ x13 then (if x13 < (x11.length : Int) then (if x13 = 0 then (if ([] : List Int).length < 17592186044416 then (frankinglaw28_waitsOf.l0 k (([] : List Int) ++ [wrap64 (1 + (wrap64 (rd x11 x13)))]) x11 x12 (wrap64 (x13 + 1))) else (none)) else (if x3.length < 17592186044416 then (frankinglaw28_waitsOf.l0 k (x3 ++ [wrap64 (1 + (wrap64 (rd x11 x13)))]) x11 x12 (wrap64 (x13 + 1))) else (none))) else (none)) else (none)) else (some x3)
def frankinglaw28_waitsOf.f (k : Nat) (l0 : List Int) : Option (List Int) := if 0 ≤ (mn (l0.length : Int) 50) then (if (mn (l0.length : Int) 50) ≤ (l0.length : Int) then (frankinglaw28_waitsOf.l0 k (([1] : List Int)) (l0.take ((mn (l0.length : Int) 50) : Int).toNat) ((l0.take ((mn (l0.length : Int) 50) : Int).toNat).length : Int) 0) else (none)) else (none)
theorem frankinglaw28_waitsOf.mono_l : ∀ k, (∀ y0 y1 y2 y3, LeO (frankinglaw28_waitsOf.l0 k y0 y1 y2 y3) (frankinglaw28_waitsOf.l0 (k + 1) y0 y1 y2 y3))
  | 0 => fun _ _ _ _ r h => by simp [frankinglaw28_waitsOf.l0] at h
  | k + 1 => by
    have ih0 := frankinglaw28_waitsOf.mono_l k
    · intro y0 y1 y2 y3
      unfold frankinglaw28_waitsOf.l0
      repeat' first
      | (with_reducible exact ih0 _ _ _ _)
      | (with_reducible exact LeO.refl _)
      | (with_reducible exact LeO.none _)
      | (with_reducible refine LeO.ite ?_ ?_)
      | (with_reducible refine LeO.bind ?_ (fun _ => ?_))
      | exact ih0 _ _ _ _
      | exact LeO.none _
      | refine LeO.ite ?_ ?_
      | refine LeO.bind ?_ (fun _ => ?_)
theorem frankinglaw28_waitsOf.mono : ∀ a0 k, LeO (frankinglaw28_waitsOf.f k a0) (frankinglaw28_waitsOf.f (k + 1) a0) := by
  intro a0 k
  have ih0 := frankinglaw28_waitsOf.mono_l k
  unfold frankinglaw28_waitsOf.f
  repeat' first
      | (with_reducible exact ih0 _ _ _ _)
      | (with_reducible exact LeO.refl _)
      | (with_reducible exact LeO.none _)
      | (with_reducible refine LeO.ite ?_ ?_)
      | (with_reducible refine LeO.bind ?_ (fun _ => ?_))
      | exact ih0 _ _ _ _
      | exact LeO.none _
      | refine LeO.ite ?_ ?_
      | refine LeO.bind ?_ (fun _ => ?_)
set_option maxHeartbeats 8000000 in
set_option maxRecDepth 100000 in
theorem frankinglaw28_waitsOf.calls (k : Nat) (A0 : Option Addr) (c0 : Nat) (l0 : List Int) (r : List Int) (w : World) (hr0 : Kd.C (Kd.int .u8) w A0 l0.length l0) (hc0 : l0.length ≤ c0) (h : frankinglaw28_waitsOf.f k l0 = some r) :
    Calls Try.prog 9 #[.slice A0 l0.length c0] w fun e w' => ∃ v0_ : Value, e = .returned (v0_) ∧ Kd.R (Kd.int .i64) 3 w' w.heap.size (fun _ => True) v0_ r ∧ Below w.heap.size w w' := by
  have HR0 := Aside0.mk hr0
  have HC0 := Aside0.mk hc0
  clear hr0 hc0
  have HB := Aside0.mk (Below.refl w.heap.size w)
  have H : (if 0 ≤ (mn (l0.length : Int) 50) then (if (mn (l0.length : Int) 50) ≤ (l0.length : Int) then (frankinglaw28_waitsOf.l0 k (([1] : List Int)) (l0.take ((mn (l0.length : Int) 50) : Int).toNat) ((l0.take ((mn (l0.length : Int) 50) : Int).toNat).length : Int) 0) else (none)) else (none)) = some r := h
  clear h
  obtain ⟨y213, hy213⟩ : ∃ y_ : List Int, y_ = (([1] : List Int)) := ⟨_, rfl⟩
  replace H : (if 0 ≤ (mn (l0.length : Int) 50) then (if (mn (l0.length : Int) 50) ≤ (l0.length : Int) then (frankinglaw28_waitsOf.l0 k y213 (l0.take ((mn (l0.length : Int) 50) : Int).toNat) ((l0.take ((mn (l0.length : Int) 50) : Int).toNat).length : Int) 0) else (none)) else (none)) = some r := by first | (rw [hy213]; with_reducible exact H) | (have H2_ := (Option.bind_some _ _).symm.trans H; rw [hy213]; with_reducible exact H2_) | (have H2_ := (Option.bind_some _ _).symm.trans H; with_reducible exact H2_) | with_reducible exact H | (rw [hy213]; exact H) | exact H
  have Ny213 := Aside0.mk hy213
  clear hy213
  obtain ⟨ji2, hji2⟩ : ∃ j_ : Int, (mn (l0.length : Int) 50) = j_ := ⟨_, rfl⟩
  replace H : (if 0 ≤ (ji2) then (if (ji2) ≤ (l0.length : Int) then (frankinglaw28_waitsOf.l0 k y213 (l0.take ((ji2) : Int).toNat) ((l0.take ((ji2) : Int).toNat).length : Int) 0) else (none)) else (none)) = some r := by first | (rw [hji2] at H; exact H) | (simp only [hji2] at H ⊢; exact H)
  (try (have hji2h : ji2 ≤ 50 := by (rw [← hji2]; unfold mn; (repeat' split) <;> omega)))
  (try (have hji2g : ji2 ≤ 64 := by omega))
  (try (have hji2l : 0 ≤ ji2 := by (rw [← hji2]; unfold mn; (repeat' split) <;> omega)))
  (try (have hji2m : 0 ≤ ji2 := by omega))
  have hji2_ : (if 50 < (l0.length : Int) then 50 else (l0.length : Int)) = ji2 := hji2
  by_cases c3 : 0 ≤ (ji2)
  · rw [if_pos c3] at H
    have c3b0 := eq_true c3
    have c3b1 : decide (0 ≤ (ji2)) = true := decide_eq_true c3
    clear c3
    by_cases c4 : (ji2) ≤ (l0.length : Int)
    · rw [if_pos c4] at H
      have c4b0 := eq_true c4
      have c4b1 : decide ((ji2) ≤ (l0.length : Int)) = true := decide_eq_true c4
      clear c4
      have H' := Aside0.mk H
      clear H
      go_enter Try.func9, Try.ntmps9
      go_wp2_with (first | ((with_reducible refine gate_dst (N := 6) rfl ?_); refine Kd.R_lit (Kd.int .i64) _ 3 ?hg (N := 6) ?hd (xs := ([1] : List Int)) (inner := [.int .i64 1]) (ok := fun _ => True) (okp := fun _ => True) ?hr ?hp (fun _ hk => hk) trivial (Below.refl _ _) (Nat.le_refl _) (by simp) ?_; (case hd => rfl); (case hg => rfl); (case hr => first | (go_simp; done) | (go_simp; rfl)); (case hp => exact (Reps.one (show Kd.M (Kd.int .i64) _ _ _ 1 [.int .i64 1] from rfl) (Reps.none _ _))); intro v214 w5 ho6 hb hg_ hnew_; clear hg_ hnew_; (first | rw [← Ny213.out] at ho6 | (simp only [Int.reduceToNat] at ho6; rw [← Ny213.out] at ho6)); have n0_ := Aside0.mk (Kd.R_lower ho6 (below_size (by repeat (first | (with_reducible first | exact HB.out | apply below_alloc | apply pw_below_drewN | apply below_drew1) | exact HB.out)))); have n1_ := Aside0.mk (below_step (by repeat (first | (with_reducible first | exact HB.out | apply below_alloc | apply pw_below_drewN | apply below_drew1) | exact HB.out)) hb); clear HB; have HO215 := n0_; have HB := n1_; clear n0_ n1_; clear hb ho6; obtain ⟨i07, hi07, _, hsz7, _⟩ := info_parts info5; obtain ⟨hcut7, hA7, hC7⟩ := print_take_of (P := Try.prog) (Value.int .u8) 0 28 5 .i64 Try.underlying28 hi07 hsz7 A0 c0 l0 (ji2) (of_decide_eq_true (by first | (with_reducible assumption) | assumption)) (of_decide_eq_true (by first | (with_reducible assumption) | assumption)) HC0.out; have HR216 := Aside0.mk (Kd.C_of_reads (h1 := fun _ => rfl) (hA7 _ (Kd.reads_of_C HR0.out))); have HC216 := Aside0.mk hC7; clear hA7 hC7 hi07 hsz7))
      go_loopg [3, 13] k (fun kq v3 v13 w' => ∃ (x3_1 : List Int) (x13_1 : Int), v13 = .int .i64 x13_1 ∧ Aside0 (frankinglaw28_waitsOf.l0 kq x3_1 (l0.take ((ji2) : Int).toNat) ((l0.take ((ji2) : Int).toNat).length : Int) x13_1 = some r) ∧ Aside0 (kq ≤ k) ∧ Aside0 (Kd.R (Kd.int .i64) 3 w' w.heap.size (fun _ => True) v3 x3_1) ∧ Aside0 (Below w.heap.size w w'))
      case atStart => exact ⟨(y213), (0), (by first | rfl | (simp; done) | (simp [*]; done)), H', ⟨Nat.le_refl _⟩, ⟨by (with_reducible repeat (first | apply Kd.R_alloc | apply Kd.R_drewN | apply Kd.R_drew)); exact HO215.out⟩, ⟨by repeat (first | (with_reducible first | exact HB.out | apply below_alloc | apply pw_below_drewN | apply below_drew1) | exact HB.out)⟩⟩
      case round =>
        clear H'
        try clear p2
        try clear c3
        try clear c3b0
        try clear c3b1
        try clear c4
        try clear c4b0
        try clear c4b1
        obtain ⟨x3_1, x13_1, rfl, HA, HK1, HO_3, HB⟩ := hrel
        cases gk with
        | zero => exact absurd HA.out (by simp [frankinglaw28_waitsOf.l0])
        | succ k1 =>
          have H := HA.out
          clear HA
          simp only [frankinglaw28_waitsOf.l0] at H
          by_cases c8 : x13_1 < ((l0.take ((ji2) : Int).toNat).length : Int)
          · rw [if_pos c8] at H
            have c8b0 : decide (x13_1 < ((l0.take ((ji2) : Int).toNat).length : Int)) = true := decide_eq_true c8
            (try (have c8b1 : decide (x13_1 < max ji2 0) = true := by have z_ := c8; rw [List.length_take] at z_; have y_ : ji2 ≤ (l0.length : Int) := (by first | exact of_eq_true (by assumption) | (rw [← hji2_]; split <;> omega)); have x_ : 0 ≤ ji2 := (by first | assumption | exact of_eq_true (by assumption)); first | (rw [decide_eq_true_iff]; omega) | (rw [decide_eq_false_iff_not]; omega) | exact eq_true (by omega) | exact eq_false (by omega)))
            (try (have c8b2 : (x13_1 < max ji2 0) = True := by have z_ := c8; rw [List.length_take] at z_; have y_ : ji2 ≤ (l0.length : Int) := (by first | exact of_eq_true (by assumption) | (rw [← hji2_]; split <;> omega)); have x_ : 0 ≤ ji2 := (by first | assumption | exact of_eq_true (by assumption)); first | (rw [decide_eq_true_iff]; omega) | (rw [decide_eq_false_iff_not]; omega) | exact eq_true (by omega) | exact eq_false (by omega)))
            (try (have c8b3 : (x13_1 < ji2) = True := by have z_ := c8; rw [List.length_take] at z_; have y_ : ji2 ≤ (l0.length : Int) := (by first | exact of_eq_true (by assumption) | (rw [← hji2_]; split <;> omega)); have x_ : 0 ≤ ji2 := (by first | assumption | exact of_eq_true (by assumption)); first | (rw [decide_eq_true_iff]; omega) | (rw [decide_eq_false_iff_not]; omega) | exact eq_true (by omega) | exact eq_false (by omega)))
            clear c8
            by_cases c9 : 0 ≤ x13_1
            · rw [if_pos c9] at H
              have c9b0 : decide (0 ≤ x13_1) = true := decide_eq_true c9
              clear c9
              by_cases c10 : x13_1 < ((l0.take ((ji2) : Int).toNat).length : Int)
              · rw [if_pos c10] at H
                have c10b0 : decide (x13_1 < ((l0.take ((ji2) : Int).toNat).length : Int)) = true := decide_eq_true c10
                (try (have c10b1 : decide (x13_1 < max ji2 0) = true := by have z_ := c10; rw [List.length_take] at z_; have y_ : ji2 ≤ (l0.length : Int) := (by first | exact of_eq_true (by assumption) | (rw [← hji2_]; split <;> omega)); have x_ : 0 ≤ ji2 := (by first | assumption | exact of_eq_true (by assumption)); first | (rw [decide_eq_true_iff]; omega) | (rw [decide_eq_false_iff_not]; omega) | exact eq_true (by omega) | exact eq_false (by omega)))
                (try (have c10b2 : (x13_1 < max ji2 0) = True := by have z_ := c10; rw [List.length_take] at z_; have y_ : ji2 ≤ (l0.length : Int) := (by first | exact of_eq_true (by assumption) | (rw [← hji2_]; split <;> omega)); have x_ : 0 ≤ ji2 := (by first | assumption | exact of_eq_true (by assumption)); first | (rw [decide_eq_true_iff]; omega) | (rw [decide_eq_false_iff_not]; omega) | exact eq_true (by omega) | exact eq_false (by omega)))
                (try (have c10b3 : (x13_1 < ji2) = True := by have z_ := c10; rw [List.length_take] at z_; have y_ : ji2 ≤ (l0.length : Int) := (by first | exact of_eq_true (by assumption) | (rw [← hji2_]; split <;> omega)); have x_ : 0 ≤ ji2 := (by first | assumption | exact of_eq_true (by assumption)); first | (rw [decide_eq_true_iff]; omega) | (rw [decide_eq_false_iff_not]; omega) | exact eq_true (by omega) | exact eq_false (by omega)))
                clear c10
                by_cases c11 : x13_1 = 0
                · rw [if_pos c11] at H
                  have c11b0 : (x13_1 == 0) = true := beq_iff_eq.mpr c11
                  have c11b1 : (x13_1 != 0) = false := bne_eq_false_iff_eq.mpr c11
                  clear c11
                  by_cases c12 : ([] : List Int).length < 17592186044416
                  · rw [if_pos c12] at H
                    have LMc12 := Aside0.mk c12
                    clear c12
                    obtain ⟨y218, hy218⟩ : ∃ y_ : List Int, y_ = (([] : List Int) ++ [wrap64 (1 + (wrap64 (rd (l0.take ((ji2) : Int).toNat) x13_1)))]) := ⟨_, rfl⟩
                    replace H : (frankinglaw28_waitsOf.l0 k1 y218 (l0.take ((ji2) : Int).toNat) ((l0.take ((ji2) : Int).toNat).length : Int) (wrap64 (x13_1 + 1))) = some r := by first | (rw [hy218]; with_reducible exact H) | (have H2_ := (Option.bind_some _ _).symm.trans H; rw [hy218]; with_reducible exact H2_) | (have H2_ := (Option.bind_some _ _).symm.trans H; with_reducible exact H2_) | with_reducible exact H | (rw [hy218]; exact H) | exact H
                    have Ny218 := Aside0.mk hy218
                    clear hy218
                    have H' := Aside0.mk H
                    clear H
                    have p217 : 0 ≤ (x13_1 : Int) := of_decide_eq_true (by first | (with_reducible assumption) | assumption)
                    have q217 : x13_1 < ((l0.take ((ji2) : Int).toNat).length : Int) := of_decide_eq_true (by first | (with_reducible assumption) | assumption)
                    obtain ⟨ad217, e217, hx217_0⟩ := Kd.at_int HR216.out x13_1 p217 q217
                    cases e217
                    replace hx217_0 := (HB.out.cell (World.block_lt_of_cell? w _ hx217_0)).trans hx217_0
                    replace p217 := eq_true p217
                    replace q217 := eq_true q217
                    go_wp2_with (first | ((with_reducible refine gate_builtin (b := .append) (xs := #[.tmp 20, .tmp 24]) rfl ?_); at_builtin; refine Kd.R_append (Kd.int .i64) (w0 := w) w.heap.size rfl (.tmp 20) (.tmp 24) 22 3 (.int .i64 0) 8 rfl Try.underlying22 info3 rfl (by decide) (by omega) (.slice none 0 0) ([] : List Int) (wrap64 (1 + (wrap64 (rd (l0.take ((ji2) : Int).toNat) x13_1)))) [.int .i64 (wrap64 (1 + (wrap64 (rd (l0.take ((ji2) : Int).toNat) x13_1))))] (fun k_ => some k_ ≠ (u3 : Value).ownBlock) (fun _ => False) rfl rfl ?aP (fun _ hk => hk.elim) ?aF ?aO ?aB ?aS ?aL ?_; (case aP => exact rfl); (case aB => exact (by repeat (first | (with_reducible first | exact HB.out | apply below_alloc | apply pw_below_drewN | apply below_drew1) | exact HB.out))); (case aF => exact (fun k_ hk => Kd.fresh' (Kd.R_lt (by (with_reducible repeat (first | apply Kd.R_alloc | apply Kd.R_drewN | apply Kd.R_drew)); exact HO_3.out)) k_ hk)); (case aO => exact ((Kd.R_nil _ _ _ _ (fun k_ => some k_ ≠ (u3 : Value).ownBlock)))); (case aS => exact (below_size (by repeat (first | (with_reducible first | exact HB.out | apply below_alloc | apply pw_below_drewN | apply below_drew1) | exact HB.out)))); (case aL => have := LMc12.out; omega); intro v219 w13 ho hb hg hat; rw [← Ny218.out] at ho; have n0_ := Aside0.mk (Kd.R_after (Kd.R_apart_nil (by (with_reducible repeat (first | apply Kd.R_alloc | apply Kd.R_drewN | apply Kd.R_drew)); exact HO_3.out)) hg hat); have n1_ := Aside0.mk (hb); have n2_ := Aside0.mk (ho); clear HO_3; clear HB; have HO_3 := n0_; have HB := n1_; have HO220 := n2_; clear n0_ n1_ n2_; clear ho hb hg hat))
                    go_roundg k1
                    case measure => have := HK1.out; omega
                    case rel => exact ⟨(y218), (wrap64 (x13_1 + 1)), (by first | rfl | (simp; done) | (simp [*]; done)), H', ⟨by have := HK1.out; omega⟩, ⟨by (with_reducible repeat (first | apply Kd.R_alloc | apply Kd.R_drewN | apply Kd.R_drew)); exact Kd.R_mono HO220.out (fun _ hk => trivial)⟩, ⟨by repeat (first | (with_reducible first | exact HB.out | apply below_alloc | apply pw_below_drewN | apply below_drew1) | exact HB.out)⟩⟩
                  · rw [if_neg c12] at H
                    exact absurd H (by simp)
                · rw [if_neg c11] at H
                  have c11b0 : (x13_1 == 0) = false := beq_eq_false_iff_ne.mpr c11
                  have c11b1 : (x13_1 != 0) = true := bne_iff_ne.mpr c11
                  by_cases c14 : x3_1.length < 17592186044416
                  · rw [if_pos c14] at H
                    have LMc14 := Aside0.mk c14
                    clear c14
                    obtain ⟨y221, hy221⟩ : ∃ y_ : List Int, y_ = (x3_1 ++ [wrap64 (1 + (wrap64 (rd (l0.take ((ji2) : Int).toNat) x13_1)))]) := ⟨_, rfl⟩
                    replace H : (frankinglaw28_waitsOf.l0 k1 y221 (l0.take ((ji2) : Int).toNat) ((l0.take ((ji2) : Int).toNat).length : Int) (wrap64 (x13_1 + 1))) = some r := by first | (rw [hy221]; with_reducible exact H) | (have H2_ := (Option.bind_some _ _).symm.trans H; rw [hy221]; with_reducible exact H2_) | (have H2_ := (Option.bind_some _ _).symm.trans H; with_reducible exact H2_) | with_reducible exact H | (rw [hy221]; exact H) | exact H
                    have Ny221 := Aside0.mk hy221
                    clear hy221
                    have H' := Aside0.mk H
                    clear H
                    have p217 : 0 ≤ (x13_1 : Int) := of_decide_eq_true (by first | (with_reducible assumption) | assumption)
                    have q217 : x13_1 < ((l0.take ((ji2) : Int).toNat).length : Int) := of_decide_eq_true (by first | (with_reducible assumption) | assumption)
                    obtain ⟨ad217, e217, hx217_0⟩ := Kd.at_int HR216.out x13_1 p217 q217
                    cases e217
                    replace hx217_0 := (HB.out.cell (World.block_lt_of_cell? w _ hx217_0)).trans hx217_0
                    replace p217 := eq_true p217
                    replace q217 := eq_true q217
                    go_wp2_with (first | ((with_reducible refine gate_builtin (b := .append) (xs := #[.tmp 20, .tmp 24]) rfl ?_); at_builtin; refine Kd.R_append (Kd.int .i64) (w0 := w) w.heap.size rfl (.tmp 20) (.tmp 24) 22 3 (.int .i64 0) 8 rfl Try.underlying22 info3 rfl (by decide) (by omega) u3 x3_1 (wrap64 (1 + (wrap64 (rd (l0.take ((ji2) : Int).toNat) x13_1)))) [.int .i64 (wrap64 (1 + (wrap64 (rd (l0.take ((ji2) : Int).toNat) x13_1))))] (fun _ => True) (fun _ => False) rfl rfl ?aP (fun _ hk => hk.elim) ?aF ?aO ?aB ?aS ?aL ?_; (case aP => exact rfl); (case aB => exact (by repeat (first | (with_reducible first | exact HB.out | apply below_alloc | apply pw_below_drewN | apply below_drew1) | exact HB.out))); (case aF => exact (fun _ _ => trivial)); (case aO => exact (by (with_reducible repeat (first | apply Kd.R_alloc | apply Kd.R_drewN | apply Kd.R_drew)); exact HO_3.out)); (case aS => exact (below_size (by repeat (first | (with_reducible first | exact HB.out | apply below_alloc | apply pw_below_drewN | apply below_drew1) | exact HB.out)))); (case aL => have := LMc14.out; omega); intro v222 w15 ho hb hg hat; rw [← Ny221.out] at ho; have n0_ := Aside0.mk (hb); have n1_ := Aside0.mk (ho); clear HB; clear HO_3; have HB := n0_; have HO223 := n1_; clear n0_ n1_; clear ho hb hg hat))
                    go_roundg k1
                    case measure => have := HK1.out; omega
                    case rel => exact ⟨(y221), (wrap64 (x13_1 + 1)), (by first | rfl | (simp; done) | (simp [*]; done)), H', ⟨by have := HK1.out; omega⟩, ⟨by (with_reducible repeat (first | apply Kd.R_alloc | apply Kd.R_drewN | apply Kd.R_drew)); exact HO223.out⟩, ⟨by repeat (first | (with_reducible first | exact HB.out | apply below_alloc | apply pw_below_drewN | apply below_drew1) | exact HB.out)⟩⟩
                  · rw [if_neg c14] at H
                    exact absurd H (by simp)
              · rw [if_neg c10] at H
                exact absurd H (by simp)
            · rw [if_neg c9] at H
              exact absurd H (by simp)
          · rw [if_neg c8] at H
            have c8b0 : decide (x13_1 < ((l0.take ((ji2) : Int).toNat).length : Int)) = false := decide_eq_false c8
            (try (have c8b1 : decide (x13_1 < max ji2 0) = false := by have z_ := c8; rw [List.length_take] at z_; have y_ : ji2 ≤ (l0.length : Int) := (by first | exact of_eq_true (by assumption) | (rw [← hji2_]; split <;> omega)); have x_ : 0 ≤ ji2 := (by first | assumption | exact of_eq_true (by assumption)); first | (rw [decide_eq_true_iff]; omega) | (rw [decide_eq_false_iff_not]; omega) | exact eq_true (by omega) | exact eq_false (by omega)))
            (try (have c8b2 : (x13_1 < max ji2 0) = False := by have z_ := c8; rw [List.length_take] at z_; have y_ : ji2 ≤ (l0.length : Int) := (by first | exact of_eq_true (by assumption) | (rw [← hji2_]; split <;> omega)); have x_ : 0 ≤ ji2 := (by first | assumption | exact of_eq_true (by assumption)); first | (rw [decide_eq_true_iff]; omega) | (rw [decide_eq_false_iff_not]; omega) | exact eq_true (by omega) | exact eq_false (by omega)))
            (try (have c8b3 : (x13_1 < ji2) = False := by have z_ := c8; rw [List.length_take] at z_; have y_ : ji2 ≤ (l0.length : Int) := (by first | exact of_eq_true (by assumption) | (rw [← hji2_]; split <;> omega)); have x_ : 0 ≤ ji2 := (by first | assumption | exact of_eq_true (by assumption)); first | (rw [decide_eq_true_iff]; omega) | (rw [decide_eq_false_iff_not]; omega) | exact eq_true (by omega) | exact eq_false (by omega)))
            clear c8
            obtain rfl := Option.some.inj H
            go_wp2
            go_ret
            exact ⟨_, by first | rfl | (simp [errW_none, errW_some] <;> rfl) | (simp only [← hji2]; first | rfl | (simp [errW_none, errW_some] <;> rfl)) | (simp [*, errW_none, errW_some] <;> rfl), by (with_reducible repeat (first | apply Kd.R_alloc | apply Kd.R_drewN | apply Kd.R_drew)); exact HO_3.out, by repeat (first | (with_reducible first | exact HB.out | apply below_alloc | apply pw_below_drewN | apply below_drew1) | exact HB.out)⟩
    · rw [if_neg c4] at H
      exact absurd H (by simp)
  · rw [if_neg c3] at H
    exact absurd H (by simp)

end Go.Proofs.Ytamldcgajgkjeaa.QRetry
