-- WRITTEN BY A PROGRAM of this session (wip/myprint), out of the translation; Lean checks it.
import Derived.Test.YtokpnfljjjjikaaGreatDoorQPathx0
import Derived.Test.YtokpnfljjjjikaaGreatDoorQPathx2
import Derived.Test.YtokpnfljjjjikaaGreatDoorQPathx4
import Derived.Test.YtokpnfljjjjikaaGreatDoorQPathx6
import Derived.Test.YtokpnfljjjjikaaGreatDoorQPathx8
import Derived.Test.YtokpnfljjjjikaaGreatDoorQPathx9
import Derived.Test.YtokpnfljjjjikaaGreatDoorESmall
import Derived.Test.YtokpnfljjjjikaaGreatDoorWRepsOne
namespace Go.Proofs.YtokpnfljjjjikaaGreatDoor.QPath
open Go.RowKit Go.Proofs.YtokpnfljjjjikaaGreatDoorW.PrintWords Go.Proofs.YtokpnfljjjjikaaGreatDoorW.PrintLast Go.Proofs.YtokpnfljjjjikaaGreatDoorW.PrintMore
attribute [local go_sem] max2_int min2_int max_two min_two max_three min_three max_four min_four   -- for this text's walks alone
set_option linter.unusedVariables false
set_option linter.unusedSimpArgs false

def frankinglaw15_awake.l0 : Nat → List ByteArray → Int → Int → Option (Bool)
  | 0, _, _, _ => none
  | k + 1, x6, x7, x8 => if x8 < x7 then (if 0 ≤ x8 then (if x8 < (x6.length : Int) then ((path_Parse.f k (rdOf ByteArray.empty x6 x8)).bind fun bt242 => (if bt242.2.2.2.2.2.2 = 150 then (if bt242.2.2.2.2.2.1 = 0 then ((frankinglaw15_Same.f k bt242.1 bt242.2.1 bt242.2.2.1 bt242.2.2.2.1 bt242.2.2.2.2.1 false ([] : List ByteArray) (⟨#[]⟩ : ByteArray) (⟨#[]⟩ : ByteArray) false).bind fun t252 => (if t252 = true then (frankinglaw15_awake.l0 k x6 x7 (wrap64 (x8 + 1))) else (none))) else (none)) else (none))) else (none)) else (none)) else ((frankinglaw15_reads.f k (⟨#[60, 65, 46, 98, 64, 88, 45, 49, 46, 79, 114, 103, 62]⟩ : ByteArray) false ([] : List ByteArray) (⟨#[65, 46, 98]⟩ : ByteArray) (⟨#[120, 45, 49, 46, 111, 114, 103]⟩ : ByteArray) false).bind fun t253 => (if t253 = true then ((frankinglaw15_reads.f k (⟨#[60, 34, 97, 92, 34, 98, 32, 99, 34, 64, 91, 49, 50, 55, 46, 48, 46, 48, 46, 49, 93, 62]⟩ : ByteArray) false ([] : List ByteArray) (⟨#[97, 34, 98, 32, 99]⟩ : ByteArray) (⟨#[49, 50, 55, 46, 48, 46, 48, 46, 49]⟩ : ByteArray) true).bind fun t254 => (if t254 = true then ((frankinglaw15_reads.f k (⟨#[60, 64, 97, 46, 98, 44, 64, 67, 58, 100, 64, 101, 62]⟩ : ByteArray) false (([(⟨#[97, 46, 98]⟩ : ByteArray), (⟨#[99]⟩ : ByteArray)] : List ByteArray)) (⟨#[100]⟩ : ByteArray) (⟨#[101]⟩ : ByteArray) false).bind fun t258 => (if t258 = true then ((frankinglaw15_reads.f k (⟨#[60, 62]⟩ : ByteArray) true ([] : List ByteArray) (⟨#[]⟩ : ByteArray) (⟨#[]⟩ : ByteArray) false).bind fun t259 => (if t259 = true then ((frankinglaw15_reads.f k (⟨#[60, 80, 111, 115, 116, 109, 97, 115, 116, 101, 114, 62]⟩ : ByteArray) false ([] : List ByteArray) (⟨#[112, 111, 115, 116, 109, 97, 115, 116, 101, 114]⟩ : ByteArray) (⟨#[]⟩ : ByteArray) false).bind fun t260 => (some t260)) else (none))) else (none))) else (none))) else (none)))
def frankinglaw15_awake.f (k : Nat)  : Option (Bool) := (some (([(⟨#[60, 97, 64, 98]⟩ : ByteArray), (⟨#[60, 97, 46, 46, 98, 64, 99, 62]⟩ : ByteArray), (⟨#[60, 97, 64, 45, 98, 62]⟩ : ByteArray), (⟨#[60, 97, 64, 98, 95, 62]⟩ : ByteArray), (⟨#[60, 97, 64, 91, 49, 46, 50, 46, 51, 93, 62]⟩ : ByteArray), (⟨#[60, 32, 97, 64, 98, 62]⟩ : ByteArray), (⟨#[]⟩ : ByteArray)] : List ByteArray) : List ByteArray)).bind fun y238 => (frankinglaw15_awake.l0 k y238 (y238.length : Int) 0)
theorem frankinglaw15_awake.mono_l : ∀ k, (∀ y0 y1 y2, LeO (frankinglaw15_awake.l0 k y0 y1 y2) (frankinglaw15_awake.l0 (k + 1) y0 y1 y2))
  | 0 => fun _ _ _ r h => by simp [frankinglaw15_awake.l0] at h
  | k + 1 => by
    have ih0 := frankinglaw15_awake.mono_l k
    · intro y0 y1 y2
      unfold frankinglaw15_awake.l0
      repeat' first
      | (with_reducible exact ih0 _ _ _)
      | (with_reducible exact frankinglaw15_Same.mono _ _ _ _ _ _ _ _ _ _ _)
      | (with_reducible exact frankinglaw15_reads.mono _ _ _ _ _ _ _)
      | (with_reducible exact path_Parse.mono _ _)
      | (with_reducible exact LeO.refl _)
      | (with_reducible exact LeO.none _)
      | (with_reducible refine LeO.ite ?_ ?_)
      | (with_reducible refine LeO.bind ?_ (fun _ => ?_))
      | refine LeO.ite ?_ ?_
      | refine LeO.bind ?_ (fun _ => ?_)
theorem frankinglaw15_awake.mono : ∀ k, LeO (frankinglaw15_awake.f k ) (frankinglaw15_awake.f (k + 1) ) := by
  intro  k
  have ih0 := frankinglaw15_awake.mono_l k
  unfold frankinglaw15_awake.f
  repeat' first
      | (with_reducible exact ih0 _ _ _)
      | (with_reducible exact frankinglaw15_Same.mono _ _ _ _ _ _ _ _ _ _ _)
      | (with_reducible exact frankinglaw15_reads.mono _ _ _ _ _ _ _)
      | (with_reducible exact path_Parse.mono _ _)
      | (with_reducible exact LeO.refl _)
      | (with_reducible exact LeO.none _)
      | (with_reducible refine LeO.ite ?_ ?_)
      | (with_reducible refine LeO.bind ?_ (fun _ => ?_))
      | refine LeO.ite ?_ ?_
      | refine LeO.bind ?_ (fun _ => ?_)
set_option maxHeartbeats 8000000 in
set_option maxRecDepth 100000 in
theorem frankinglaw15_awake.calls (k : Nat)  (r : Bool) (w : World) (hG : GlobalsOK w) (h : frankinglaw15_awake.f k  = some r) :
    Calls Tryz.prog 19 #[] w fun e w' => e = .returned (.bool r) ∧ Below w.heap.size w w' := by
  have hu32 := Tryz.underlying32
  have hu30 := Tryz.underlying30
  have HB := Aside0.mk (Below.refl w.heap.size w)
  have HG := Aside0.mk hG
  clear hG
  have H : ((some (([(⟨#[60, 97, 64, 98]⟩ : ByteArray), (⟨#[60, 97, 46, 46, 98, 64, 99, 62]⟩ : ByteArray), (⟨#[60, 97, 64, 45, 98, 62]⟩ : ByteArray), (⟨#[60, 97, 64, 98, 95, 62]⟩ : ByteArray), (⟨#[60, 97, 64, 91, 49, 46, 50, 46, 51, 93, 62]⟩ : ByteArray), (⟨#[60, 32, 97, 64, 98, 62]⟩ : ByteArray), (⟨#[]⟩ : ByteArray)] : List ByteArray) : List ByteArray)).bind fun y238 => (frankinglaw15_awake.l0 k y238 (y238.length : Int) 0)) = some r := h
  clear h
  obtain ⟨y238, hy238⟩ : ∃ y_ : List ByteArray, y_ = (([(⟨#[60, 97, 64, 98]⟩ : ByteArray), (⟨#[60, 97, 46, 46, 98, 64, 99, 62]⟩ : ByteArray), (⟨#[60, 97, 64, 45, 98, 62]⟩ : ByteArray), (⟨#[60, 97, 64, 98, 95, 62]⟩ : ByteArray), (⟨#[60, 97, 64, 91, 49, 46, 50, 46, 51, 93, 62]⟩ : ByteArray), (⟨#[60, 32, 97, 64, 98, 62]⟩ : ByteArray), (⟨#[]⟩ : ByteArray)] : List ByteArray)) := ⟨_, rfl⟩
  replace H : (frankinglaw15_awake.l0 k y238 (y238.length : Int) 0) = some r := by first | (rw [hy238]; with_reducible exact H) | (have H2_ := (Option.bind_some _ _).symm.trans H; rw [hy238]; with_reducible exact H2_) | (have H2_ := (Option.bind_some _ _).symm.trans H; with_reducible exact H2_) | with_reducible exact H | (rw [hy238]; exact H) | exact H
  have Ny238 := Aside0.mk hy238
  clear hy238
  have H' := Aside0.mk H
  clear H
  go_enter Tryz.func19, Tryz.ntmps19
  go_wp2_with (first | ((with_reducible refine gate_dst (N := 6) rfl ?_); (try (refine gate_guard (by rfl) ?_; dsimp only)); refine Kd.R_lit Kd.string _ 9 ?hg (N := 6) ?hd (xs := ([(⟨#[60, 97, 64, 98]⟩ : ByteArray), (⟨#[60, 97, 46, 46, 98, 64, 99, 62]⟩ : ByteArray), (⟨#[60, 97, 64, 45, 98, 62]⟩ : ByteArray), (⟨#[60, 97, 64, 98, 95, 62]⟩ : ByteArray), (⟨#[60, 97, 64, 91, 49, 46, 50, 46, 51, 93, 62]⟩ : ByteArray), (⟨#[60, 32, 97, 64, 98, 62]⟩ : ByteArray), (⟨#[]⟩ : ByteArray)] : List ByteArray)) (inner := [.string (⟨#[60, 97, 64, 98]⟩ : ByteArray), .string (⟨#[60, 97, 46, 46, 98, 64, 99, 62]⟩ : ByteArray), .string (⟨#[60, 97, 64, 45, 98, 62]⟩ : ByteArray), .string (⟨#[60, 97, 64, 98, 95, 62]⟩ : ByteArray), .string (⟨#[60, 97, 64, 91, 49, 46, 50, 46, 51, 93, 62]⟩ : ByteArray), .string (⟨#[60, 32, 97, 64, 98, 62]⟩ : ByteArray), .string (⟨#[]⟩ : ByteArray)]) (ok := fun _ => True) (okp := fun _ => True) ?hr ?hp (fun _ hk => hk) trivial (Below.refl _ _) (Nat.le_refl _) (by simp) ?_; (case hd => rfl); (case hg => rfl); (case hr => first | (go_simp; done) | (go_simp; rfl)); (case hp => exact (Reps.one (show Kd.M Kd.string _ _ _ (⟨#[60, 97, 64, 98]⟩ : ByteArray) [.string (⟨#[60, 97, 64, 98]⟩ : ByteArray)] from rfl) (Reps.one (show Kd.M Kd.string _ _ _ (⟨#[60, 97, 46, 46, 98, 64, 99, 62]⟩ : ByteArray) [.string (⟨#[60, 97, 46, 46, 98, 64, 99, 62]⟩ : ByteArray)] from rfl) (Reps.one (show Kd.M Kd.string _ _ _ (⟨#[60, 97, 64, 45, 98, 62]⟩ : ByteArray) [.string (⟨#[60, 97, 64, 45, 98, 62]⟩ : ByteArray)] from rfl) (Reps.one (show Kd.M Kd.string _ _ _ (⟨#[60, 97, 64, 98, 95, 62]⟩ : ByteArray) [.string (⟨#[60, 97, 64, 98, 95, 62]⟩ : ByteArray)] from rfl) (Reps.one (show Kd.M Kd.string _ _ _ (⟨#[60, 97, 64, 91, 49, 46, 50, 46, 51, 93, 62]⟩ : ByteArray) [.string (⟨#[60, 97, 64, 91, 49, 46, 50, 46, 51, 93, 62]⟩ : ByteArray)] from rfl) (Reps.one (show Kd.M Kd.string _ _ _ (⟨#[60, 32, 97, 64, 98, 62]⟩ : ByteArray) [.string (⟨#[60, 32, 97, 64, 98, 62]⟩ : ByteArray)] from rfl) (Reps.one (show Kd.M Kd.string _ _ _ (⟨#[]⟩ : ByteArray) [.string (⟨#[]⟩ : ByteArray)] from rfl) (Reps.none _ _))))))))); intro v239 w1 ho2 hb hg_ hnew_; clear hg_ hnew_; (first | rw [← Ny238.out] at ho2 | (simp only [Int.reduceToNat] at ho2; rw [← Ny238.out] at ho2)); have n0_ := Aside0.mk (Kd.R_lower ho2 (below_size (by repeat (first | (with_reducible first | exact HB.out | apply below_alloc | apply pw_below_drewN | apply below_drew1) | exact HB.out)))); have n1_ := Aside0.mk (below_step (by repeat (first | (with_reducible first | exact HB.out | apply below_alloc | apply pw_below_drewN | apply below_drew1) | exact HB.out)) hb); clear HB; have HO240 := n0_; have HB := n1_; clear n0_ n1_; clear hb ho2; obtain ⟨Ao3, co3, eo3⟩ := Kd.R_slice HO240.out; subst eo3))
  go_loopg [8] k (fun kq v8 w' => ∃ (x8_1 : Int), v8 = .int .i64 x8_1 ∧ Aside0 (frankinglaw15_awake.l0 kq y238 (y238.length : Int) x8_1 = some r) ∧ Aside0 (kq ≤ k) ∧ Aside0 (Kd.R Kd.string 9 w' w.heap.size (fun _ => True) (.slice Ao3 y238.length co3) y238) ∧ Aside0 (Below w.heap.size w w'))
  case atStart => exact ⟨(0), (by first | rfl | (simp; done) | (simp [*]; done)), H', ⟨Nat.le_refl _⟩, ⟨by (with_reducible repeat (first | apply Kd.R_alloc | apply Kd.R_drewN | apply Kd.R_drew)); exact HO240.out⟩, ⟨by repeat (first | (with_reducible first | exact HB.out | apply below_alloc | apply pw_below_drewN | apply below_drew1) | exact HB.out)⟩⟩
  case round =>
    clear H'
    try clear c1
    try clear p2
    obtain ⟨x8_1, rfl, HA, HK1, HO_6, HB⟩ := hrel
    cases gk with
    | zero => exact absurd HA.out (by simp [frankinglaw15_awake.l0])
    | succ k1 =>
      have H := HA.out
      clear HA
      simp only [frankinglaw15_awake.l0] at H
      by_cases c4 : x8_1 < (y238.length : Int)
      · rw [if_pos c4] at H
        have c4b0 : decide (x8_1 < (y238.length : Int)) = true := decide_eq_true c4
        clear c4
        by_cases c5 : 0 ≤ x8_1
        · rw [if_pos c5] at H
          have c5b0 : decide (0 ≤ x8_1) = true := decide_eq_true c5
          clear c5
          by_cases c6 : x8_1 < (y238.length : Int)
          · rw [if_pos c6] at H
            have c6b0 : decide (x8_1 < (y238.length : Int)) = true := decide_eq_true c6
            clear c6
            replace H := Option.bind_eq_some_iff.mp H
            obtain ⟨⟨t242, t243, t246, t247, t248, t249, t250⟩, A70, H⟩ := H
            replace H : (if t250 = 150 then (if t249 = 0 then ((frankinglaw15_Same.f k1 t242 t243 t246 t247 t248 false ([] : List ByteArray) (⟨#[]⟩ : ByteArray) (⟨#[]⟩ : ByteArray) false).bind fun t252 => (if t252 = true then (frankinglaw15_awake.l0 k1 y238 (y238.length : Int) (wrap64 (x8_1 + 1))) else (none))) else (none)) else (none)) = some r := H
            have A7 := Aside0.mk A70
            clear A70
            by_cases c8 : t250 = 150
            · rw [if_pos c8] at H
              have c8b0 : (t250 == 150) = true := beq_iff_eq.mpr c8
              have c8b1 : (t250 != 150) = false := bne_eq_false_iff_eq.mpr c8
              clear c8
              by_cases c9 : t249 = 0
              · rw [if_pos c9] at H
                have c9b0 : (t249 == 0) = true := beq_iff_eq.mpr c9
                have c9b1 : (t249 != 0) = false := bne_eq_false_iff_eq.mpr c9
                clear c9
                replace H := Option.bind_eq_some_iff.mp H
                obtain ⟨t252, A100, H⟩ := H
                replace H : (if t252 = true then (frankinglaw15_awake.l0 k1 y238 (y238.length : Int) (wrap64 (x8_1 + 1))) else (none)) = some r := H
                have A10 := Aside0.mk A100
                clear A100
                by_cases c11 : t252 = true
                · subst c11
                  have H1 : (frankinglaw15_awake.l0 k1 y238 (y238.length : Int) (wrap64 (x8_1 + 1))) = some r := by rw [if_pos rfl] at H; exact H
                  clear H
                  have H := H1
                  clear H1
                  have H' := Aside0.mk H
                  clear H
                  have p241 : 0 ≤ (x8_1 : Int) := of_decide_eq_true (by first | (with_reducible assumption) | assumption)
                  have q241 : x8_1 < (y238.length : Int) := of_decide_eq_true (by first | (with_reducible assumption) | assumption)
                  obtain ⟨ad241, e241, hx241_0⟩ := Kd.at_string (Kd.R_reads' HO_6.out).2.2 x8_1 p241 q241
                  cases e241
                  replace p241 := eq_true p241
                  replace q241 := eq_true q241
                  go_wp2_with (first | ((with_reducible refine gate_callee (f := 17) rfl ?_); refine goesL_ (some 14) rfl rfl Tryz.func17 (by kernel_rfl) rfl #[.string (rdOf ByteArray.empty y238 x8_1)] rfl (by (try simp only [List.map_toArray, List.map_cons, List.map_nil]); first | done | rfl | (simp only [List.length_drop, List.length_take]; rfl)) ?_; (with_reducible refine (path_Parse.calls k1 (rdOf ByteArray.empty y238 x8_1) t242 t243 t246 t247 t248 t249 t250 _ ?side1 A7.out).mono ?_); (case side1 => exact GlobalsOK.below HG.out (by repeat (first | (with_reducible first | exact HB.out | apply below_alloc | apply pw_below_drewN | apply below_drew1) | exact HB.out))); rintro e w12 ⟨v244, rfl, ho0, hb⟩; refine ⟨_, rfl, ?_⟩; have n0_ := Aside0.mk (Kd.R_elder' (by (with_reducible repeat (first | apply Kd.R_alloc | apply Kd.R_drewN | apply Kd.R_drew)); exact HO_6.out) (Kd.R_base ho0) hb); have n1_ := Aside0.mk (Kd.R_lower (Kd.R_new' ho0 (Kd.R_lt (by (with_reducible repeat (first | apply Kd.R_alloc | apply Kd.R_drewN | apply Kd.R_drew)); exact HO_6.out))) (below_size (by repeat (first | (with_reducible first | exact HB.out | apply below_alloc | apply pw_below_drewN | apply below_drew1) | exact HB.out)))); have n2_ := Aside0.mk (below_step (by repeat (first | (with_reducible first | exact HB.out | apply below_alloc | apply pw_below_drewN | apply below_drew1) | exact HB.out)) hb); clear HO_6; clear HB; have HO_6 := n0_; have HO245 := n1_; have HB := n2_; clear n0_ n1_ n2_; (try clear hb); (try clear hb2); (try clear hk); (try clear hi); (try clear ho0)) | ((with_reducible refine gate_dst (N := 3) rfl ?_); (try (refine gate_guard (by rfl) ?_; dsimp only)); refine box_event ?hg (N := 3) ?hd (cs := #[.bool false, .slice none 0 0, .string (⟨#[]⟩ : ByteArray), .string (⟨#[]⟩ : ByteArray), .bool false]) (t := 32) ?hr ?_; (case hd => rfl); (case hg => rfl); (case hr => first | (go_simp; done) | (go_simp; rfl)); intro gb251 hg w13 hbox hb; have n0_ := Aside0.mk (Kd.R_below (by (with_reducible repeat (first | apply Kd.R_alloc | apply Kd.R_drewN | apply Kd.R_drew)); exact HO_6.out) hb); have n1_ := Aside0.mk (Kd.R_below (by (with_reducible repeat (first | apply Kd.R_alloc | apply Kd.R_drewN | apply Kd.R_drew)); exact HO245.out) hb); have n2_ := Aside0.mk (below_step (by repeat (first | (with_reducible first | exact HB.out | apply below_alloc | apply pw_below_drewN | apply below_drew1) | exact HB.out)) hb); have n3_ := Aside0.mk (hbox); have n4_ := Aside0.mk ((by rw [hg]; exact (below_size (by repeat (first | (with_reducible first | exact HB.out | apply below_alloc | apply pw_below_drewN | apply below_drew1) | exact HB.out))) : w.heap.size ≤ gb251)); have n5_ := Aside0.mk ((by rw [hg]; exact (below_size (by repeat (first | (with_reducible first | exact HB.out | apply below_alloc | apply pw_below_drewN | apply below_drew1) | exact HB.out))) : w.heap.size ≤ gb251)); clear HO_6; clear HO245; clear HB; have HO_6 := n0_; have HO245 := n1_; have HB := n2_; have BK251 := n3_; have GW251 := n4_; have GE251 := n5_; clear n0_ n1_ n2_ n3_ n4_ n5_; clear hb hbox hg; have hcz14_0 : w13.cell? ⟨gb251, 0, none⟩ = some (.bool false) := (blk_cell BK251.out 0).trans rfl; have hcz14_1 : w13.cell? ⟨gb251, 1, none⟩ = some (.slice none 0 0) := (blk_cell BK251.out 1).trans rfl; have hcz14_2 : w13.cell? ⟨gb251, 2, none⟩ = some (.string (⟨#[]⟩ : ByteArray)) := (blk_cell BK251.out 2).trans rfl; have hcz14_3 : w13.cell? ⟨gb251, 3, none⟩ = some (.string (⟨#[]⟩ : ByteArray)) := (blk_cell BK251.out 3).trans rfl; have hcz14_4 : w13.cell? ⟨gb251, 4, none⟩ = some (.bool false) := (blk_cell BK251.out 4).trans rfl; have hfz14_0 := blk_frozen BK251.out 0; have hfz14_1 := blk_frozen BK251.out 1; have hfz14_2 := blk_frozen BK251.out 2; have hfz14_3 := blk_frozen BK251.out 3; have hfz14_4 := blk_frozen BK251.out 4; obtain ⟨Ao15, co15, eo15⟩ := Kd.R_slice HO245.out; subst eo15) | (go_at_call 18; (refine (frankinglaw15_Same.calls k1 t242 _ _ t243 t246 t247 t248 false _ _ ([] : List ByteArray) (⟨#[]⟩ : ByteArray) (⟨#[]⟩ : ByteArray) false true _ ?side1 ?side2 ?side3 ?side4 A10.out).mono ?_); (case side1 => refine (Kd.R_reads' (e := 9) (base := w.heap.size) (ok := fun k_ => (True ∧ some k_ ≠ (.slice (some ad241) y238.length co3 : Value).ownBlock)) (n := t243.length) (c := co15) ?_).2.2; exact (by (with_reducible repeat (first | apply Kd.R_alloc | apply Kd.R_drewN | apply Kd.R_drew)); exact (Kd.R_mono (Kd.R_far (p := ⟨gb251, 4, none⟩) (Kd.R_far (p := ⟨gb251, 3, none⟩) (Kd.R_far (p := ⟨gb251, 2, none⟩) (Kd.R_far (p := ⟨gb251, 1, none⟩) (Kd.R_far (p := ⟨gb251, 0, none⟩) (Kd.R_types HO245.out BK251.out (by decide)) (fun _ hk => hk.2) (.bool t242)) (fun _ hk => hk.2) (.slice Ao15 t243.length co15)) (fun _ hk => hk.2) (.string t246)) (fun _ hk => hk.2) (.string t247)) (fun _ hk => hk.2) (.bool t248)) (fun _ h_ => h_.1)))); (case side2 => exact (Kd.R_reads' HO245.out).2.1); (case side3 => exact Kd.C_nil _ _); (case side4 => exact Nat.le_refl _); rintro e w16 ⟨rfl, hb⟩; have n0_ := Aside0.mk (Kd.R_below (by (with_reducible repeat (first | apply Kd.R_alloc | apply Kd.R_drewN | apply Kd.R_drew)); exact (Kd.R_mono (Kd.R_far (p := ⟨gb251, 4, none⟩) (Kd.R_far (p := ⟨gb251, 3, none⟩) (Kd.R_far (p := ⟨gb251, 2, none⟩) (Kd.R_far (p := ⟨gb251, 1, none⟩) (Kd.R_far (p := ⟨gb251, 0, none⟩) (Kd.R_types HO_6.out BK251.out (by decide)) (fun _ hk => hk.2) (.bool t242)) (fun _ hk => hk.2) (.slice Ao15 t243.length co15)) (fun _ hk => hk.2) (.string t246)) (fun _ hk => hk.2) (.string t247)) (fun _ hk => hk.2) (.bool t248)) (fun _ h_ => h_.1))) hb); have n1_ := Aside0.mk (Kd.R_below (by (with_reducible repeat (first | apply Kd.R_alloc | apply Kd.R_drewN | apply Kd.R_drew)); exact (Kd.R_mono (Kd.R_far (p := ⟨gb251, 4, none⟩) (Kd.R_far (p := ⟨gb251, 3, none⟩) (Kd.R_far (p := ⟨gb251, 2, none⟩) (Kd.R_far (p := ⟨gb251, 1, none⟩) (Kd.R_far (p := ⟨gb251, 0, none⟩) (Kd.R_types HO245.out BK251.out (by decide)) (fun _ hk => hk.2) (.bool t242)) (fun _ hk => hk.2) (.slice Ao15 t243.length co15)) (fun _ hk => hk.2) (.string t246)) (fun _ hk => hk.2) (.string t247)) (fun _ hk => hk.2) (.bool t248)) (fun _ h_ => h_.1))) hb); have n2_ := Aside0.mk (blk_below (g := gb251) (o := .cells #[.bool t242, .slice Ao15 t243.length co15, .string t246, .string t247, .bool t248] 32 (0, 0)) (by (with_reducible repeat (first | refine blk_drewN ?_ _ | refine blk_drew ?_ | refine blk_alloc ?_ _)); refine blk_put (cs := #[.bool t242, .slice Ao15 t243.length co15, .string t246, .string t247, .bool false]) ?_ 4 _ rfl; (with_reducible repeat (first | refine blk_drewN ?_ _ | refine blk_drew ?_ | refine blk_alloc ?_ _)); refine blk_put (cs := #[.bool t242, .slice Ao15 t243.length co15, .string t246, .string (⟨#[]⟩ : ByteArray), .bool false]) ?_ 3 _ rfl; (with_reducible repeat (first | refine blk_drewN ?_ _ | refine blk_drew ?_ | refine blk_alloc ?_ _)); refine blk_put (cs := #[.bool t242, .slice Ao15 t243.length co15, .string (⟨#[]⟩ : ByteArray), .string (⟨#[]⟩ : ByteArray), .bool false]) ?_ 2 _ rfl; (with_reducible repeat (first | refine blk_drewN ?_ _ | refine blk_drew ?_ | refine blk_alloc ?_ _)); refine blk_put (cs := #[.bool t242, .slice none 0 0, .string (⟨#[]⟩ : ByteArray), .string (⟨#[]⟩ : ByteArray), .bool false]) ?_ 1 _ rfl; (with_reducible repeat (first | refine blk_drewN ?_ _ | refine blk_drew ?_ | refine blk_alloc ?_ _)); refine blk_put (cs := #[.bool false, .slice none 0 0, .string (⟨#[]⟩ : ByteArray), .string (⟨#[]⟩ : ByteArray), .bool false]) ?_ 0 _ rfl; (with_reducible repeat (first | refine blk_drewN ?_ _ | refine blk_drew ?_ | refine blk_alloc ?_ _)); exact BK251.out) hb); have n3_ := Aside0.mk (below_step (by repeat (first | (with_reducible first | exact HB.out | apply below_alloc | apply pw_below_drewN | apply below_drew1 | refine below_set ?_ GE251.out) | exact HB.out)) hb); clear HO_6; clear HO245; clear BK251; clear HB; have HO_6 := n0_; have HO245 := n1_; have BK251 := n2_; have HB := n3_; clear n0_ n1_ n2_ n3_; (try clear hb); (try clear hb2); (try clear hk); (try clear hi)))
                  go_roundg k1
                  case measure => have := HK1.out; omega
                  case rel => exact ⟨(wrap64 (x8_1 + 1)), (by first | rfl | (simp; done) | (simp [*]; done)), H', ⟨by have := HK1.out; omega⟩, ⟨by (with_reducible repeat (first | apply Kd.R_alloc | apply Kd.R_drewN | apply Kd.R_drew)); exact Kd.R_mono HO_6.out (fun _ hk => trivial)⟩, ⟨by repeat (first | (with_reducible first | exact HB.out | apply below_alloc | apply pw_below_drewN | apply below_drew1 | refine below_set ?_ GE251.out) | exact HB.out)⟩⟩
                · replace c11 := Bool.eq_false_iff.mpr c11
                  subst c11
                  have H1 : (none) = some r := by rw [if_neg (show ¬ (false = true) by decide)] at H; exact H
                  clear H
                  have H := H1
                  clear H1
                  exact absurd H (by simp)
              · rw [if_neg c9] at H
                exact absurd H (by simp)
            · rw [if_neg c8] at H
              exact absurd H (by simp)
          · rw [if_neg c6] at H
            exact absurd H (by simp)
        · rw [if_neg c5] at H
          exact absurd H (by simp)
      · rw [if_neg c4] at H
        have c4b0 : decide (x8_1 < (y238.length : Int)) = false := decide_eq_false c4
        clear c4
        replace H := Option.bind_eq_some_iff.mp H
        obtain ⟨t253, A170, H⟩ := H
        replace H : (if t253 = true then ((frankinglaw15_reads.f k1 (⟨#[60, 34, 97, 92, 34, 98, 32, 99, 34, 64, 91, 49, 50, 55, 46, 48, 46, 48, 46, 49, 93, 62]⟩ : ByteArray) false ([] : List ByteArray) (⟨#[97, 34, 98, 32, 99]⟩ : ByteArray) (⟨#[49, 50, 55, 46, 48, 46, 48, 46, 49]⟩ : ByteArray) true).bind fun t254 => (if t254 = true then ((frankinglaw15_reads.f k1 (⟨#[60, 64, 97, 46, 98, 44, 64, 67, 58, 100, 64, 101, 62]⟩ : ByteArray) false (([(⟨#[97, 46, 98]⟩ : ByteArray), (⟨#[99]⟩ : ByteArray)] : List ByteArray)) (⟨#[100]⟩ : ByteArray) (⟨#[101]⟩ : ByteArray) false).bind fun t258 => (if t258 = true then ((frankinglaw15_reads.f k1 (⟨#[60, 62]⟩ : ByteArray) true ([] : List ByteArray) (⟨#[]⟩ : ByteArray) (⟨#[]⟩ : ByteArray) false).bind fun t259 => (if t259 = true then ((frankinglaw15_reads.f k1 (⟨#[60, 80, 111, 115, 116, 109, 97, 115, 116, 101, 114, 62]⟩ : ByteArray) false ([] : List ByteArray) (⟨#[112, 111, 115, 116, 109, 97, 115, 116, 101, 114]⟩ : ByteArray) (⟨#[]⟩ : ByteArray) false).bind fun t260 => (some t260)) else (none))) else (none))) else (none))) else (none)) = some r := H
        have A17 := Aside0.mk A170
        clear A170
        by_cases c18 : t253 = true
        · subst c18
          have H1 : ((frankinglaw15_reads.f k1 (⟨#[60, 34, 97, 92, 34, 98, 32, 99, 34, 64, 91, 49, 50, 55, 46, 48, 46, 48, 46, 49, 93, 62]⟩ : ByteArray) false ([] : List ByteArray) (⟨#[97, 34, 98, 32, 99]⟩ : ByteArray) (⟨#[49, 50, 55, 46, 48, 46, 48, 46, 49]⟩ : ByteArray) true).bind fun t254 => (if t254 = true then ((frankinglaw15_reads.f k1 (⟨#[60, 64, 97, 46, 98, 44, 64, 67, 58, 100, 64, 101, 62]⟩ : ByteArray) false (([(⟨#[97, 46, 98]⟩ : ByteArray), (⟨#[99]⟩ : ByteArray)] : List ByteArray)) (⟨#[100]⟩ : ByteArray) (⟨#[101]⟩ : ByteArray) false).bind fun t258 => (if t258 = true then ((frankinglaw15_reads.f k1 (⟨#[60, 62]⟩ : ByteArray) true ([] : List ByteArray) (⟨#[]⟩ : ByteArray) (⟨#[]⟩ : ByteArray) false).bind fun t259 => (if t259 = true then ((frankinglaw15_reads.f k1 (⟨#[60, 80, 111, 115, 116, 109, 97, 115, 116, 101, 114, 62]⟩ : ByteArray) false ([] : List ByteArray) (⟨#[112, 111, 115, 116, 109, 97, 115, 116, 101, 114]⟩ : ByteArray) (⟨#[]⟩ : ByteArray) false).bind fun t260 => (some t260)) else (none))) else (none))) else (none))) = some r := by rw [if_pos rfl] at H; exact H
          clear H
          have H := H1
          clear H1
          replace H := Option.bind_eq_some_iff.mp H
          obtain ⟨t254, A190, H⟩ := H
          replace H : (if t254 = true then ((frankinglaw15_reads.f k1 (⟨#[60, 64, 97, 46, 98, 44, 64, 67, 58, 100, 64, 101, 62]⟩ : ByteArray) false (([(⟨#[97, 46, 98]⟩ : ByteArray), (⟨#[99]⟩ : ByteArray)] : List ByteArray)) (⟨#[100]⟩ : ByteArray) (⟨#[101]⟩ : ByteArray) false).bind fun t258 => (if t258 = true then ((frankinglaw15_reads.f k1 (⟨#[60, 62]⟩ : ByteArray) true ([] : List ByteArray) (⟨#[]⟩ : ByteArray) (⟨#[]⟩ : ByteArray) false).bind fun t259 => (if t259 = true then ((frankinglaw15_reads.f k1 (⟨#[60, 80, 111, 115, 116, 109, 97, 115, 116, 101, 114, 62]⟩ : ByteArray) false ([] : List ByteArray) (⟨#[112, 111, 115, 116, 109, 97, 115, 116, 101, 114]⟩ : ByteArray) (⟨#[]⟩ : ByteArray) false).bind fun t260 => (some t260)) else (none))) else (none))) else (none)) = some r := H
          have A19 := Aside0.mk A190
          clear A190
          by_cases c20 : t254 = true
          · subst c20
            have H1 : ((frankinglaw15_reads.f k1 (⟨#[60, 64, 97, 46, 98, 44, 64, 67, 58, 100, 64, 101, 62]⟩ : ByteArray) false (([(⟨#[97, 46, 98]⟩ : ByteArray), (⟨#[99]⟩ : ByteArray)] : List ByteArray)) (⟨#[100]⟩ : ByteArray) (⟨#[101]⟩ : ByteArray) false).bind fun t258 => (if t258 = true then ((frankinglaw15_reads.f k1 (⟨#[60, 62]⟩ : ByteArray) true ([] : List ByteArray) (⟨#[]⟩ : ByteArray) (⟨#[]⟩ : ByteArray) false).bind fun t259 => (if t259 = true then ((frankinglaw15_reads.f k1 (⟨#[60, 80, 111, 115, 116, 109, 97, 115, 116, 101, 114, 62]⟩ : ByteArray) false ([] : List ByteArray) (⟨#[112, 111, 115, 116, 109, 97, 115, 116, 101, 114]⟩ : ByteArray) (⟨#[]⟩ : ByteArray) false).bind fun t260 => (some t260)) else (none))) else (none))) = some r := by rw [if_pos rfl] at H; exact H
            clear H
            have H := H1
            clear H1
            obtain ⟨y255, hy255⟩ : ∃ y_ : List ByteArray, y_ = (([(⟨#[97, 46, 98]⟩ : ByteArray), (⟨#[99]⟩ : ByteArray)] : List ByteArray)) := ⟨_, rfl⟩
            replace H : ((frankinglaw15_reads.f k1 (⟨#[60, 64, 97, 46, 98, 44, 64, 67, 58, 100, 64, 101, 62]⟩ : ByteArray) false y255 (⟨#[100]⟩ : ByteArray) (⟨#[101]⟩ : ByteArray) false).bind fun t258 => (if t258 = true then ((frankinglaw15_reads.f k1 (⟨#[60, 62]⟩ : ByteArray) true ([] : List ByteArray) (⟨#[]⟩ : ByteArray) (⟨#[]⟩ : ByteArray) false).bind fun t259 => (if t259 = true then ((frankinglaw15_reads.f k1 (⟨#[60, 80, 111, 115, 116, 109, 97, 115, 116, 101, 114, 62]⟩ : ByteArray) false ([] : List ByteArray) (⟨#[112, 111, 115, 116, 109, 97, 115, 116, 101, 114]⟩ : ByteArray) (⟨#[]⟩ : ByteArray) false).bind fun t260 => (some t260)) else (none))) else (none))) = some r := by first | (rw [hy255]; with_reducible exact H) | (have H2_ := (Option.bind_some _ _).symm.trans H; rw [hy255]; with_reducible exact H2_) | (have H2_ := (Option.bind_some _ _).symm.trans H; with_reducible exact H2_) | with_reducible exact H | (rw [hy255]; exact H) | exact H
            have Ny255 := Aside0.mk hy255
            clear hy255
            replace H := Option.bind_eq_some_iff.mp H
            obtain ⟨t258, A210, H⟩ := H
            replace H : (if t258 = true then ((frankinglaw15_reads.f k1 (⟨#[60, 62]⟩ : ByteArray) true ([] : List ByteArray) (⟨#[]⟩ : ByteArray) (⟨#[]⟩ : ByteArray) false).bind fun t259 => (if t259 = true then ((frankinglaw15_reads.f k1 (⟨#[60, 80, 111, 115, 116, 109, 97, 115, 116, 101, 114, 62]⟩ : ByteArray) false ([] : List ByteArray) (⟨#[112, 111, 115, 116, 109, 97, 115, 116, 101, 114]⟩ : ByteArray) (⟨#[]⟩ : ByteArray) false).bind fun t260 => (some t260)) else (none))) else (none)) = some r := H
            have A21 := Aside0.mk A210
            clear A210
            by_cases c22 : t258 = true
            · subst c22
              have H1 : ((frankinglaw15_reads.f k1 (⟨#[60, 62]⟩ : ByteArray) true ([] : List ByteArray) (⟨#[]⟩ : ByteArray) (⟨#[]⟩ : ByteArray) false).bind fun t259 => (if t259 = true then ((frankinglaw15_reads.f k1 (⟨#[60, 80, 111, 115, 116, 109, 97, 115, 116, 101, 114, 62]⟩ : ByteArray) false ([] : List ByteArray) (⟨#[112, 111, 115, 116, 109, 97, 115, 116, 101, 114]⟩ : ByteArray) (⟨#[]⟩ : ByteArray) false).bind fun t260 => (some t260)) else (none))) = some r := by rw [if_pos rfl] at H; exact H
              clear H
              have H := H1
              clear H1
              replace H := Option.bind_eq_some_iff.mp H
              obtain ⟨t259, A230, H⟩ := H
              replace H : (if t259 = true then ((frankinglaw15_reads.f k1 (⟨#[60, 80, 111, 115, 116, 109, 97, 115, 116, 101, 114, 62]⟩ : ByteArray) false ([] : List ByteArray) (⟨#[112, 111, 115, 116, 109, 97, 115, 116, 101, 114]⟩ : ByteArray) (⟨#[]⟩ : ByteArray) false).bind fun t260 => (some t260)) else (none)) = some r := H
              have A23 := Aside0.mk A230
              clear A230
              by_cases c24 : t259 = true
              · subst c24
                have H1 : ((frankinglaw15_reads.f k1 (⟨#[60, 80, 111, 115, 116, 109, 97, 115, 116, 101, 114, 62]⟩ : ByteArray) false ([] : List ByteArray) (⟨#[112, 111, 115, 116, 109, 97, 115, 116, 101, 114]⟩ : ByteArray) (⟨#[]⟩ : ByteArray) false).bind fun t260 => (some t260)) = some r := by rw [if_pos rfl] at H; exact H
                clear H
                have H := H1
                clear H1
                replace H := Option.bind_eq_some_iff.mp H
                obtain ⟨t260, A250, H⟩ := H
                replace H : (some t260) = some r := H
                have A25 := Aside0.mk A250
                clear A250
                obtain rfl := Option.some.inj H
                go_wp2_with (first | ((with_reducible refine gate_callee (f := 62) rfl ?_); refine goesL_ (some 33) rfl rfl Tryz.func62 (by kernel_rfl) rfl #[.string (⟨#[60, 65, 46, 98, 64, 88, 45, 49, 46, 79, 114, 103, 62]⟩ : ByteArray), .agg #[.bool false, .slice none 0 0, .string (⟨#[65, 46, 98]⟩ : ByteArray), .string (⟨#[120, 45, 49, 46, 111, 114, 103]⟩ : ByteArray), .bool false]] rfl (by (try simp only [List.map_toArray, List.map_cons, List.map_nil]); first | done | rfl | (simp only [List.length_drop, List.length_take]; rfl)) ?_; (refine (frankinglaw15_reads.calls k1 (⟨#[60, 65, 46, 98, 64, 88, 45, 49, 46, 79, 114, 103, 62]⟩ : ByteArray) false _ _ ([] : List ByteArray) (⟨#[65, 46, 98]⟩ : ByteArray) (⟨#[120, 45, 49, 46, 111, 114, 103]⟩ : ByteArray) false true _ ?side1 ?side2 ?side3 A17.out).mono ?_); (case side1 => exact Kd.C_nil _ _); (case side2 => exact Nat.le_refl _); (case side3 => exact GlobalsOK.below HG.out (by repeat (first | (with_reducible first | exact HB.out | apply below_alloc | apply pw_below_drewN | apply below_drew1) | exact HB.out))); rintro e w26 ⟨rfl, hb⟩; refine ⟨_, rfl, ?_⟩; have n0_ := Aside0.mk (Kd.R_below (by (with_reducible repeat (first | apply Kd.R_alloc | apply Kd.R_drewN | apply Kd.R_drew)); exact HO_6.out) hb); have n1_ := Aside0.mk (below_step (by repeat (first | (with_reducible first | exact HB.out | apply below_alloc | apply pw_below_drewN | apply below_drew1) | exact HB.out)) hb); clear HO_6; clear HB; have HO_6 := n0_; have HB := n1_; clear n0_ n1_; (try clear hb); (try clear hb2); (try clear hk); (try clear hi)) | (go_at_call 62; guard_target = Calls _ _ #[.string (⟨#[60, 34, 97, 92, 34, 98, 32, 99, 34, 64, 91, 49, 50, 55, 46, 48, 46, 48, 46, 49, 93, 62]⟩ : ByteArray), _] _ _; (refine (frankinglaw15_reads.calls k1 (⟨#[60, 34, 97, 92, 34, 98, 32, 99, 34, 64, 91, 49, 50, 55, 46, 48, 46, 48, 46, 49, 93, 62]⟩ : ByteArray) false _ _ ([] : List ByteArray) (⟨#[97, 34, 98, 32, 99]⟩ : ByteArray) (⟨#[49, 50, 55, 46, 48, 46, 48, 46, 49]⟩ : ByteArray) true true _ ?side1 ?side2 ?side3 A19.out).mono ?_); (case side1 => exact Kd.C_nil _ _); (case side2 => exact Nat.le_refl _); (case side3 => exact GlobalsOK.below HG.out (by repeat (first | (with_reducible first | exact HB.out | apply below_alloc | apply pw_below_drewN | apply below_drew1) | exact HB.out))); rintro e w27 ⟨rfl, hb⟩; have n0_ := Aside0.mk (Kd.R_below (by (with_reducible repeat (first | apply Kd.R_alloc | apply Kd.R_drewN | apply Kd.R_drew)); exact HO_6.out) hb); have n1_ := Aside0.mk (below_step (by repeat (first | (with_reducible first | exact HB.out | apply below_alloc | apply pw_below_drewN | apply below_drew1) | exact HB.out)) hb); clear HO_6; clear HB; have HO_6 := n0_; have HB := n1_; clear n0_ n1_; (try clear hb); (try clear hb2); (try clear hk); (try clear hi)) | ((with_reducible refine gate_dst (N := 40) rfl ?_); (try (refine gate_guard (by rfl) ?_; dsimp only)); refine Kd.R_lit Kd.string _ 9 ?hg (N := 40) ?hd (xs := ([(⟨#[97, 46, 98]⟩ : ByteArray), (⟨#[99]⟩ : ByteArray)] : List ByteArray)) (inner := [.string (⟨#[97, 46, 98]⟩ : ByteArray), .string (⟨#[99]⟩ : ByteArray)]) (ok := fun _ => True) (okp := fun _ => True) ?hr ?hp (fun _ hk => hk) trivial (Below.refl _ _) (Nat.le_refl _) (by simp) ?_; (case hd => rfl); (case hg => rfl); (case hr => first | (go_simp; done) | (go_simp; rfl)); (case hp => exact (Reps.one (show Kd.M Kd.string _ _ _ (⟨#[97, 46, 98]⟩ : ByteArray) [.string (⟨#[97, 46, 98]⟩ : ByteArray)] from rfl) (Reps.one (show Kd.M Kd.string _ _ _ (⟨#[99]⟩ : ByteArray) [.string (⟨#[99]⟩ : ByteArray)] from rfl) (Reps.none _ _)))); intro v256 w28 ho29 hb hg_ hnew_; clear hg_ hnew_; (first | rw [← Ny255.out] at ho29 | (simp only [Int.reduceToNat] at ho29; rw [← Ny255.out] at ho29)); have n0_ := Aside0.mk (Kd.R_elder' (by (with_reducible repeat (first | apply Kd.R_alloc | apply Kd.R_drewN | apply Kd.R_drew)); exact HO_6.out) (Kd.R_base ho29) hb); have n1_ := Aside0.mk (Kd.R_lower (Kd.R_new' ho29 (Kd.R_lt (by (with_reducible repeat (first | apply Kd.R_alloc | apply Kd.R_drewN | apply Kd.R_drew)); exact HO_6.out))) (below_size (by repeat (first | (with_reducible first | exact HB.out | apply below_alloc | apply pw_below_drewN | apply below_drew1) | exact HB.out)))); have n2_ := Aside0.mk (below_step (by repeat (first | (with_reducible first | exact HB.out | apply below_alloc | apply pw_below_drewN | apply below_drew1) | exact HB.out)) hb); clear HO_6; clear HB; have HO_6 := n0_; have HO257 := n1_; have HB := n2_; clear n0_ n1_ n2_; clear hb ho29; obtain ⟨Ao30, co30, eo30⟩ := Kd.R_slice HO257.out; subst eo30) | (go_at_call 62; (with_reducible refine (frankinglaw15_reads.calls k1 (⟨#[60, 64, 97, 46, 98, 44, 64, 67, 58, 100, 64, 101, 62]⟩ : ByteArray) false _ _ y255 (⟨#[100]⟩ : ByteArray) (⟨#[101]⟩ : ByteArray) false true _ ?side1 ?side2 ?side3 A21.out).mono ?_); (case side1 => repeat (first | exact (Kd.R_reads' HO257.out).2.2 | (with_reducible refine Kd.C_alloc ?_ _) | (with_reducible refine Kd.C_drewN ?_ _) | (with_reducible refine Kd.C_drew ?_))); (case side2 => exact (Kd.R_reads' HO257.out).2.1); (case side3 => exact GlobalsOK.below HG.out (by repeat (first | (with_reducible first | exact HB.out | apply below_alloc | apply pw_below_drewN | apply below_drew1) | exact HB.out))); rintro e w31 ⟨rfl, hb⟩; have n0_ := Aside0.mk (Kd.R_below (by (with_reducible repeat (first | apply Kd.R_alloc | apply Kd.R_drewN | apply Kd.R_drew)); exact HO_6.out) hb); have n1_ := Aside0.mk (Kd.R_below (by (with_reducible repeat (first | apply Kd.R_alloc | apply Kd.R_drewN | apply Kd.R_drew)); exact HO257.out) hb); have n2_ := Aside0.mk (below_step (by repeat (first | (with_reducible first | exact HB.out | apply below_alloc | apply pw_below_drewN | apply below_drew1) | exact HB.out)) hb); clear HO_6; clear HO257; clear HB; have HO_6 := n0_; have HO257 := n1_; have HB := n2_; clear n0_ n1_ n2_; (try clear hb); (try clear hb2); (try clear hk); (try clear hi)) | (go_at_call 62; guard_target = Calls _ _ #[.string (⟨#[60, 62]⟩ : ByteArray), _] _ _; (refine (frankinglaw15_reads.calls k1 (⟨#[60, 62]⟩ : ByteArray) true _ _ ([] : List ByteArray) (⟨#[]⟩ : ByteArray) (⟨#[]⟩ : ByteArray) false true _ ?side1 ?side2 ?side3 A23.out).mono ?_); (case side1 => exact Kd.C_nil _ _); (case side2 => exact Nat.le_refl _); (case side3 => exact GlobalsOK.below HG.out (by repeat (first | (with_reducible first | exact HB.out | apply below_alloc | apply pw_below_drewN | apply below_drew1) | exact HB.out))); rintro e w32 ⟨rfl, hb⟩; have n0_ := Aside0.mk (Kd.R_below (by (with_reducible repeat (first | apply Kd.R_alloc | apply Kd.R_drewN | apply Kd.R_drew)); exact HO_6.out) hb); have n1_ := Aside0.mk (Kd.R_below (by (with_reducible repeat (first | apply Kd.R_alloc | apply Kd.R_drewN | apply Kd.R_drew)); exact HO257.out) hb); have n2_ := Aside0.mk (below_step (by repeat (first | (with_reducible first | exact HB.out | apply below_alloc | apply pw_below_drewN | apply below_drew1) | exact HB.out)) hb); clear HO_6; clear HO257; clear HB; have HO_6 := n0_; have HO257 := n1_; have HB := n2_; clear n0_ n1_ n2_; (try clear hb); (try clear hb2); (try clear hk); (try clear hi)) | (go_at_call 62; guard_target = Calls _ _ #[.string (⟨#[60, 80, 111, 115, 116, 109, 97, 115, 116, 101, 114, 62]⟩ : ByteArray), _] _ _; (refine (frankinglaw15_reads.calls k1 (⟨#[60, 80, 111, 115, 116, 109, 97, 115, 116, 101, 114, 62]⟩ : ByteArray) false _ _ ([] : List ByteArray) (⟨#[112, 111, 115, 116, 109, 97, 115, 116, 101, 114]⟩ : ByteArray) (⟨#[]⟩ : ByteArray) false t260 _ ?side1 ?side2 ?side3 A25.out).mono ?_); (case side1 => exact Kd.C_nil _ _); (case side2 => exact Nat.le_refl _); (case side3 => exact GlobalsOK.below HG.out (by repeat (first | (with_reducible first | exact HB.out | apply below_alloc | apply pw_below_drewN | apply below_drew1) | exact HB.out))); rintro e w33 ⟨rfl, hb⟩; have n0_ := Aside0.mk (Kd.R_below (by (with_reducible repeat (first | apply Kd.R_alloc | apply Kd.R_drewN | apply Kd.R_drew)); exact HO_6.out) hb); have n1_ := Aside0.mk (Kd.R_below (by (with_reducible repeat (first | apply Kd.R_alloc | apply Kd.R_drewN | apply Kd.R_drew)); exact HO257.out) hb); have n2_ := Aside0.mk (below_step (by repeat (first | (with_reducible first | exact HB.out | apply below_alloc | apply pw_below_drewN | apply below_drew1) | exact HB.out)) hb); clear HO_6; clear HO257; clear HB; have HO_6 := n0_; have HO257 := n1_; have HB := n2_; clear n0_ n1_ n2_; (try clear hb); (try clear hb2); (try clear hk); (try clear hi)))
                go_ret
                exact ⟨by first | rfl | (simp [errW_none, errW_some] <;> rfl) | (simp [*, errW_none, errW_some] <;> rfl), by repeat (first | (with_reducible first | exact HB.out | apply below_alloc | apply pw_below_drewN | apply below_drew1) | exact HB.out)⟩
              · replace c24 := Bool.eq_false_iff.mpr c24
                subst c24
                have H1 : (none) = some r := by rw [if_neg (show ¬ (false = true) by decide)] at H; exact H
                clear H
                have H := H1
                clear H1
                exact absurd H (by simp)
            · replace c22 := Bool.eq_false_iff.mpr c22
              subst c22
              have H1 : (none) = some r := by rw [if_neg (show ¬ (false = true) by decide)] at H; exact H
              clear H
              have H := H1
              clear H1
              exact absurd H (by simp)
          · replace c20 := Bool.eq_false_iff.mpr c20
            subst c20
            have H1 : (none) = some r := by rw [if_neg (show ¬ (false = true) by decide)] at H; exact H
            clear H
            have H := H1
            clear H1
            exact absurd H (by simp)
        · replace c18 := Bool.eq_false_iff.mpr c18
          subst c18
          have H1 : (none) = some r := by rw [if_neg (show ¬ (false = true) by decide)] at H; exact H
          clear H
          have H := H1
          clear H1
          exact absurd H (by simp)

def path_Domain.f (k : Nat) (a0 : ByteArray) : Option (Bool) := (path_reader_domain.f k a0 0).bind fun bt262 => (if bt262.2.1 = true then (if bt262.2.2.2 = (a0.size : Int) then ((path_short.f k a0).bind fun t266 => (some t266)) else (some false)) else (some false))
set_option maxHeartbeats 8000000 in
set_option maxRecDepth 100000 in
theorem path_Domain.calls (k : Nat) (a0 : ByteArray) (r : Bool) (w : World) (hG : GlobalsOK w) (h : path_Domain.f k a0 = some r) :
    Calls Tryz.prog 25 #[.string a0] w fun e w' => e = .returned (.bool r) ∧ Below w.heap.size w w' := by
  have hu82 := Tryz.underlying82
  have HB := Aside0.mk (Below.refl w.heap.size w)
  have HG := Aside0.mk hG
  clear hG
  have H : ((path_reader_domain.f k a0 0).bind fun bt262 => (if bt262.2.1 = true then (if bt262.2.2.2 = (a0.size : Int) then ((path_short.f k a0).bind fun t266 => (some t266)) else (some false)) else (some false))) = some r := h
  clear h
  replace H := Option.bind_eq_some_iff.mp H
  obtain ⟨⟨t262, t263, t264, t265⟩, A20, H⟩ := H
  replace H : (if t263 = true then (if t265 = (a0.size : Int) then ((path_short.f k a0).bind fun t266 => (some t266)) else (some false)) else (some false)) = some r := H
  have A2 := Aside0.mk A20
  clear A20
  by_cases c3 : t263 = true
  · subst c3
    have H1 : (if t265 = (a0.size : Int) then ((path_short.f k a0).bind fun t266 => (some t266)) else (some false)) = some r := by rw [if_pos rfl] at H; exact H
    clear H
    have H := H1
    clear H1
    by_cases c4 : t265 = (a0.size : Int)
    · rw [if_pos c4] at H
      have c4b0 : (t265 == (a0.size : Int)) = true := beq_iff_eq.mpr c4
      have c4b1 : (t265 != (a0.size : Int)) = false := bne_eq_false_iff_eq.mpr c4
      clear c4
      replace H := Option.bind_eq_some_iff.mp H
      obtain ⟨t266, A50, H⟩ := H
      replace H : (some t266) = some r := H
      have A5 := Aside0.mk A50
      clear A50
      obtain rfl := Option.some.inj H
      go_enter Tryz.func25, Tryz.ntmps25
      go_wp2_with (first | ((with_reducible refine gate_dst (N := 8) rfl ?_); (try (refine gate_guard (by rfl) ?_; dsimp only)); refine box_event ?hg (N := 8) ?hd (cs := #[.string a0, .int .i64 0]) (t := 82) ?hr ?_; (case hd => rfl); (case hg => rfl); (case hr => first | (go_simp; done) | (go_simp; rfl)); intro gb261 hg w6 hbox hb; have n0_ := Aside0.mk (below_step (by repeat (first | (with_reducible first | exact HB.out | apply below_alloc | apply pw_below_drewN | apply below_drew1) | exact HB.out)) hb); have n1_ := Aside0.mk ((⟨hbox, by rw [hg]; exact (below_size (by repeat (first | (with_reducible first | exact HB.out | apply below_alloc | apply pw_below_drewN | apply below_drew1) | exact HB.out)))⟩ : IsS82 w w6 gb261 a0 0)); have n2_ := Aside0.mk ((by rw [hg]; exact (below_size (by repeat (first | (with_reducible first | exact HB.out | apply below_alloc | apply pw_below_drewN | apply below_drew1) | exact HB.out))) : w.heap.size ≤ gb261)); have n3_ := Aside0.mk ((by rw [hg]; exact (below_size (by repeat (first | (with_reducible first | exact HB.out | apply below_alloc | apply pw_below_drewN | apply below_drew1) | exact HB.out))) : w.heap.size ≤ gb261)); clear HB; have HB := n0_; have HI261 := n1_; have GW261 := n2_; have GE261 := n3_; clear n0_ n1_ n2_ n3_; clear hb hbox hg) | ((with_reducible refine gate_callee (f := 80) rfl ?_); refine goesL_ (some 11) rfl rfl Tryz.func80 (by kernel_rfl) rfl #[.pointer (some ⟨gb261, 0, none⟩)] rfl (by (try simp only [List.map_toArray, List.map_cons, List.map_nil]); first | done | rfl | (simp only [List.length_drop, List.length_take]; rfl)) ?_; (with_reducible refine (path_reader_domain.calls k gb261 a0 0 t262 true t264 t265 w _ ?side1 ?side2 A2.out).mono ?_); (case side1 => repeat (first | (with_reducible first | exact HI261.out | apply IsS82.alloc | apply IsS82.drewN | apply IsS82.drew | apply IsS82.set_0 | apply IsS82.set_1) | exact HI261.out)); (case side2 => repeat (first | (with_reducible first | exact HB.out | apply below_alloc | apply pw_below_drewN | apply below_drew1 | refine below_set ?_ (IsS82.ge HI261.out)) | exact HB.out)); rintro e w7 ⟨rfl, hi, hb, hk⟩; refine ⟨_, rfl, ?_⟩; have n0_ := Aside0.mk (hb); have n1_ := Aside0.mk (hi); clear HB; clear HI261; have HB := n0_; have HI261 := n1_; clear n0_ n1_; (try clear hb); (try clear hb2); (try clear hk); (try clear hi); obtain ⟨HGz8, hgz8⟩ := HI261.out; have hcz8_0 := cellS82_0 HGz8; have hcz8_1 := cellS82_1 HGz8; have hfz8_0 := blk_frozen HGz8 0; have hfz8_1 := blk_frozen HGz8 1; clear HGz8 hgz8) | (go_at_call 61; (with_reducible refine (path_short.calls k a0 t266 _ ?side1 A5.out).mono ?_); (case side1 => exact GlobalsOK.below HG.out (by repeat (first | (with_reducible first | exact HB.out | apply below_alloc | apply pw_below_drewN | apply below_drew1 | refine below_set ?_ (IsS82.ge HI261.out)) | exact HB.out))); rintro e w9 ⟨rfl, hb⟩; have n0_ := Aside0.mk (IsS82.below (by repeat (first | (with_reducible first | exact HI261.out | apply IsS82.alloc | apply IsS82.drewN | apply IsS82.drew | apply IsS82.set_0 | apply IsS82.set_1) | exact HI261.out)) hb); have n1_ := Aside0.mk (below_step (by repeat (first | (with_reducible first | exact HB.out | apply below_alloc | apply pw_below_drewN | apply below_drew1 | refine below_set ?_ (IsS82.ge HI261.out)) | exact HB.out)) hb); clear HI261; clear HB; have HI261 := n0_; have HB := n1_; clear n0_ n1_; (try clear hb); (try clear hb2); (try clear hk); (try clear hi)))
      go_ret
      exact ⟨by first | rfl | (simp [errW_none, errW_some] <;> rfl) | (simp [*, errW_none, errW_some] <;> rfl), by repeat (first | (with_reducible first | exact HB.out | apply below_alloc | apply pw_below_drewN | apply below_drew1 | refine below_set ?_ (IsS82.ge HI261.out)) | exact HB.out)⟩
    · rw [if_neg c4] at H
      have c4b0 : (t265 == (a0.size : Int)) = false := beq_eq_false_iff_ne.mpr c4
      have c4b1 : (t265 != (a0.size : Int)) = true := bne_iff_ne.mpr c4
      obtain rfl := Option.some.inj H
      go_enter Tryz.func25, Tryz.ntmps25
      go_wp2_with (first | ((with_reducible refine gate_dst (N := 8) rfl ?_); (try (refine gate_guard (by rfl) ?_; dsimp only)); refine box_event ?hg (N := 8) ?hd (cs := #[.string a0, .int .i64 0]) (t := 82) ?hr ?_; (case hd => rfl); (case hg => rfl); (case hr => first | (go_simp; done) | (go_simp; rfl)); intro gb261 hg w10 hbox hb; have n0_ := Aside0.mk (below_step (by repeat (first | (with_reducible first | exact HB.out | apply below_alloc | apply pw_below_drewN | apply below_drew1) | exact HB.out)) hb); have n1_ := Aside0.mk ((⟨hbox, by rw [hg]; exact (below_size (by repeat (first | (with_reducible first | exact HB.out | apply below_alloc | apply pw_below_drewN | apply below_drew1) | exact HB.out)))⟩ : IsS82 w w10 gb261 a0 0)); have n2_ := Aside0.mk ((by rw [hg]; exact (below_size (by repeat (first | (with_reducible first | exact HB.out | apply below_alloc | apply pw_below_drewN | apply below_drew1) | exact HB.out))) : w.heap.size ≤ gb261)); have n3_ := Aside0.mk ((by rw [hg]; exact (below_size (by repeat (first | (with_reducible first | exact HB.out | apply below_alloc | apply pw_below_drewN | apply below_drew1) | exact HB.out))) : w.heap.size ≤ gb261)); clear HB; have HB := n0_; have HI261 := n1_; have GW261 := n2_; have GE261 := n3_; clear n0_ n1_ n2_ n3_; clear hb hbox hg) | ((with_reducible refine gate_callee (f := 80) rfl ?_); refine goesL_ (some 11) rfl rfl Tryz.func80 (by kernel_rfl) rfl #[.pointer (some ⟨gb261, 0, none⟩)] rfl (by (try simp only [List.map_toArray, List.map_cons, List.map_nil]); first | done | rfl | (simp only [List.length_drop, List.length_take]; rfl)) ?_; (with_reducible refine (path_reader_domain.calls k gb261 a0 0 t262 true t264 t265 w _ ?side1 ?side2 A2.out).mono ?_); (case side1 => repeat (first | (with_reducible first | exact HI261.out | apply IsS82.alloc | apply IsS82.drewN | apply IsS82.drew | apply IsS82.set_0 | apply IsS82.set_1) | exact HI261.out)); (case side2 => repeat (first | (with_reducible first | exact HB.out | apply below_alloc | apply pw_below_drewN | apply below_drew1 | refine below_set ?_ (IsS82.ge HI261.out)) | exact HB.out)); rintro e w11 ⟨rfl, hi, hb, hk⟩; refine ⟨_, rfl, ?_⟩; have n0_ := Aside0.mk (hb); have n1_ := Aside0.mk (hi); clear HB; clear HI261; have HB := n0_; have HI261 := n1_; clear n0_ n1_; (try clear hb); (try clear hb2); (try clear hk); (try clear hi); obtain ⟨HGz12, hgz12⟩ := HI261.out; have hcz12_0 := cellS82_0 HGz12; have hcz12_1 := cellS82_1 HGz12; have hfz12_0 := blk_frozen HGz12 0; have hfz12_1 := blk_frozen HGz12 1; clear HGz12 hgz12))
      go_ret
      exact ⟨by first | rfl | (simp [errW_none, errW_some] <;> rfl) | (simp [*, errW_none, errW_some] <;> rfl), by repeat (first | (with_reducible first | exact HB.out | apply below_alloc | apply pw_below_drewN | apply below_drew1 | refine below_set ?_ (IsS82.ge HI261.out)) | exact HB.out)⟩
  · replace c3 := Bool.eq_false_iff.mpr c3
    subst c3
    have H1 : (some false) = some r := by rw [if_neg (show ¬ (false = true) by decide)] at H; exact H
    clear H
    have H := H1
    clear H1
    obtain rfl := Option.some.inj H
    go_enter Tryz.func25, Tryz.ntmps25
    go_wp2_with (first | ((with_reducible refine gate_dst (N := 8) rfl ?_); (try (refine gate_guard (by rfl) ?_; dsimp only)); refine box_event ?hg (N := 8) ?hd (cs := #[.string a0, .int .i64 0]) (t := 82) ?hr ?_; (case hd => rfl); (case hg => rfl); (case hr => first | (go_simp; done) | (go_simp; rfl)); intro gb261 hg w13 hbox hb; have n0_ := Aside0.mk (below_step (by repeat (first | (with_reducible first | exact HB.out | apply below_alloc | apply pw_below_drewN | apply below_drew1) | exact HB.out)) hb); have n1_ := Aside0.mk ((⟨hbox, by rw [hg]; exact (below_size (by repeat (first | (with_reducible first | exact HB.out | apply below_alloc | apply pw_below_drewN | apply below_drew1) | exact HB.out)))⟩ : IsS82 w w13 gb261 a0 0)); have n2_ := Aside0.mk ((by rw [hg]; exact (below_size (by repeat (first | (with_reducible first | exact HB.out | apply below_alloc | apply pw_below_drewN | apply below_drew1) | exact HB.out))) : w.heap.size ≤ gb261)); have n3_ := Aside0.mk ((by rw [hg]; exact (below_size (by repeat (first | (with_reducible first | exact HB.out | apply below_alloc | apply pw_below_drewN | apply below_drew1) | exact HB.out))) : w.heap.size ≤ gb261)); clear HB; have HB := n0_; have HI261 := n1_; have GW261 := n2_; have GE261 := n3_; clear n0_ n1_ n2_ n3_; clear hb hbox hg) | ((with_reducible refine gate_callee (f := 80) rfl ?_); refine goesL_ (some 11) rfl rfl Tryz.func80 (by kernel_rfl) rfl #[.pointer (some ⟨gb261, 0, none⟩)] rfl (by (try simp only [List.map_toArray, List.map_cons, List.map_nil]); first | done | rfl | (simp only [List.length_drop, List.length_take]; rfl)) ?_; (with_reducible refine (path_reader_domain.calls k gb261 a0 0 t262 false t264 t265 w _ ?side1 ?side2 A2.out).mono ?_); (case side1 => repeat (first | (with_reducible first | exact HI261.out | apply IsS82.alloc | apply IsS82.drewN | apply IsS82.drew | apply IsS82.set_0 | apply IsS82.set_1) | exact HI261.out)); (case side2 => repeat (first | (with_reducible first | exact HB.out | apply below_alloc | apply pw_below_drewN | apply below_drew1 | refine below_set ?_ (IsS82.ge HI261.out)) | exact HB.out)); rintro e w14 ⟨rfl, hi, hb, hk⟩; refine ⟨_, rfl, ?_⟩; have n0_ := Aside0.mk (hb); have n1_ := Aside0.mk (hi); clear HB; clear HI261; have HB := n0_; have HI261 := n1_; clear n0_ n1_; (try clear hb); (try clear hb2); (try clear hk); (try clear hi)))
    go_ret
    exact ⟨by first | rfl | (simp [errW_none, errW_some] <;> rfl) | (simp [*, errW_none, errW_some] <;> rfl), by repeat (first | (with_reducible first | exact HB.out | apply below_alloc | apply pw_below_drewN | apply below_drew1 | refine below_set ?_ (IsS82.ge HI261.out)) | exact HB.out)⟩

def path_lean.f (k : Nat) (a0 : ByteArray) : Option (Bool) := (path_Domain.f k a0).bind fun t267 => (if t267 = true then ((path_small.f a0).bind fun t268 => (some (t268.toList == a0.toList))) else (some false))
set_option maxHeartbeats 8000000 in
set_option maxRecDepth 100000 in
theorem path_lean.calls (k : Nat) (a0 : ByteArray) (r : Bool) (w : World) (hG : GlobalsOK w) (h : path_lean.f k a0 = some r) :
    Calls Tryz.prog 65 #[.string a0] w fun e w' => e = .returned (.bool r) ∧ Below w.heap.size w w' := by
  have HB := Aside0.mk (Below.refl w.heap.size w)
  have HG := Aside0.mk hG
  clear hG
  have H : ((path_Domain.f k a0).bind fun t267 => (if t267 = true then ((path_small.f a0).bind fun t268 => (some (t268.toList == a0.toList))) else (some false))) = some r := h
  clear h
  replace H := Option.bind_eq_some_iff.mp H
  obtain ⟨t267, A20, H⟩ := H
  replace H : (if t267 = true then ((path_small.f a0).bind fun t268 => (some (t268.toList == a0.toList))) else (some false)) = some r := H
  have A2 := Aside0.mk A20
  clear A20
  by_cases c3 : t267 = true
  · subst c3
    have H1 : ((path_small.f a0).bind fun t268 => (some (t268.toList == a0.toList))) = some r := by rw [if_pos rfl] at H; exact H
    clear H
    have H := H1
    clear H1
    replace H := Option.bind_eq_some_iff.mp H
    obtain ⟨t268, A40, H⟩ := H
    replace H : (some (t268.toList == a0.toList)) = some r := H
    have A4 := Aside0.mk A40
    clear A40
    obtain rfl := Option.some.inj H
    go_enter Tryz.func65, Tryz.ntmps65
    go_wp2_with (first | ((with_reducible refine gate_callee (f := 25) rfl ?_); refine goesL_ (some 4) rfl rfl Tryz.func25 (by kernel_rfl) rfl #[.string a0] rfl (by (try simp only [List.map_toArray, List.map_cons, List.map_nil]); first | done | rfl | (simp only [List.length_drop, List.length_take]; rfl)) ?_; (with_reducible refine (path_Domain.calls k a0 true _ ?side1 A2.out).mono ?_); (case side1 => exact GlobalsOK.below HG.out (by repeat (first | (with_reducible first | exact HB.out | apply below_alloc | apply pw_below_drewN | apply below_drew1) | exact HB.out))); rintro e w5 ⟨rfl, hb⟩; refine ⟨_, rfl, ?_⟩; have n0_ := Aside0.mk (below_step (by repeat (first | (with_reducible first | exact HB.out | apply below_alloc | apply pw_below_drewN | apply below_drew1) | exact HB.out)) hb); clear HB; have HB := n0_; clear n0_; (try clear hb); (try clear hb2); (try clear hk); (try clear hi)) | (go_at_call 81; (with_reducible refine (path_small.calls a0 t268 _ A4.out).mono ?_); rintro e w6 ⟨rfl, hb⟩; have n0_ := Aside0.mk (below_step (by repeat (first | (with_reducible first | exact HB.out | apply below_alloc | apply pw_below_drewN | apply below_drew1) | exact HB.out)) hb); clear HB; have HB := n0_; clear n0_; (try clear hb); (try clear hb2); (try clear hk); (try clear hi)))
    go_ret
    exact ⟨by first | rfl | (simp [errW_none, errW_some] <;> rfl) | (simp [*, errW_none, errW_some] <;> rfl), by repeat (first | (with_reducible first | exact HB.out | apply below_alloc | apply pw_below_drewN | apply below_drew1) | exact HB.out)⟩
  · replace c3 := Bool.eq_false_iff.mpr c3
    subst c3
    have H1 : (some false) = some r := by rw [if_neg (show ¬ (false = true) by decide)] at H; exact H
    clear H
    have H := H1
    clear H1
    obtain rfl := Option.some.inj H
    go_enter Tryz.func65, Tryz.ntmps65
    go_wp2_with (first | ((with_reducible refine gate_callee (f := 25) rfl ?_); refine goesL_ (some 4) rfl rfl Tryz.func25 (by kernel_rfl) rfl #[.string a0] rfl (by (try simp only [List.map_toArray, List.map_cons, List.map_nil]); first | done | rfl | (simp only [List.length_drop, List.length_take]; rfl)) ?_; (with_reducible refine (path_Domain.calls k a0 false _ ?side1 A2.out).mono ?_); (case side1 => exact GlobalsOK.below HG.out (by repeat (first | (with_reducible first | exact HB.out | apply below_alloc | apply pw_below_drewN | apply below_drew1) | exact HB.out))); rintro e w7 ⟨rfl, hb⟩; refine ⟨_, rfl, ?_⟩; have n0_ := Aside0.mk (below_step (by repeat (first | (with_reducible first | exact HB.out | apply below_alloc | apply pw_below_drewN | apply below_drew1) | exact HB.out)) hb); clear HB; have HB := n0_; clear n0_; (try clear hb); (try clear hb2); (try clear hk); (try clear hi)))
    go_ret
    exact ⟨by first | rfl | (simp [errW_none, errW_some] <;> rfl) | (simp [*, errW_none, errW_some] <;> rfl), by repeat (first | (with_reducible first | exact HB.out | apply below_alloc | apply pw_below_drewN | apply below_drew1) | exact HB.out)⟩

end Go.Proofs.YtokpnfljjjjikaaGreatDoor.QPath
