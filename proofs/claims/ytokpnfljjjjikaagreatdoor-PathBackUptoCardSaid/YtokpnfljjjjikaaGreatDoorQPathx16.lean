-- WRITTEN BY A PROGRAM of this session (wip/myprint), out of the translation; Lean checks it.
import Derived.Test.YtokpnfljjjjikaaGreatDoorQPathx0
import Derived.Test.YtokpnfljjjjikaaGreatDoorQPathx1
import Derived.Test.YtokpnfljjjjikaaGreatDoorQPathx8
import Derived.Test.YtokpnfljjjjikaaGreatDoorQPathx9
import Derived.Test.YtokpnfljjjjikaaGreatDoorQPathx10
import Derived.Test.YtokpnfljjjjikaaGreatDoorQPathx12
import Derived.Test.YtokpnfljjjjikaaGreatDoorQPathx13
import Derived.Test.YtokpnfljjjjikaaGreatDoorQPathx15
import Derived.Test.YtokpnfljjjjikaaGreatDoorEBox
namespace Go.Proofs.YtokpnfljjjjikaaGreatDoor.QPath
open Go.RowKit Go.Proofs.YtokpnfljjjjikaaGreatDoorW.PrintWords Go.Proofs.YtokpnfljjjjikaaGreatDoorW.PrintLast Go.Proofs.YtokpnfljjjjikaaGreatDoorW.PrintMore
attribute [local go_sem] max2_int min2_int max_two min_two max_three min_three max_four min_four   -- for this text's walks alone
set_option linter.unusedVariables false
set_option linter.unusedSimpArgs false

attribute [local go_sem high] eqA30
mutual
def frankinglaw15_PathBack.j0 : Nat → ByteArray → ByteArray → Int → ByteArray → Int → Bool → Bool → List ByteArray → ByteArray → ByteArray → Bool → Option (Bool)
  | 0, _, _, _, _, _, _, _, _, _, _, _ => none
  | k + 1, x1, x5, x6, x7, x8, x53, x298000, x298001, x298002, x298003, x298004 => if x53 = true then (none) else (if x6 = 0 then (if x5.size + x1.size ≤ 9223372036854775807 then ((path_Parse.f k (x5 ++ x1)).bind fun bt303 => (if bt303.2.2.2.2.2.2 = 0 then (if bt303.2.2.2.2.2.1 = (x5.size : Int) then ((frankinglaw15_Same.f k x298000 x298001 x298002 x298003 x298004 bt303.1 bt303.2.1 bt303.2.2.1 bt303.2.2.2.1 bt303.2.2.2.2.1).bind fun t313 => (if t313 = true then (if ((x8 == 0) != (x298003.toList != ([] : List UInt8))) = true then (none) else (frankinglaw15_PathBack.j1 k x7 x8 x298000 x298001 x298002 x298003 x298004)) else (none))) else (none)) else (none))) else (none)) else (frankinglaw15_PathBack.j1 k x7 x8 x298000 x298001 x298002 x298003 x298004))
def frankinglaw15_PathBack.j1 : Nat → ByteArray → Int → Bool → List ByteArray → ByteArray → ByteArray → Bool → Option (Bool)
  | 0, _, _, _, _, _, _, _ => none
  | k + 1, x7, x8, x298000, x298001, x298002, x298003, x298004 => if x8 = 0 then ((path_Mailbox.f k x7).bind fun bt314 => (if bt314.2.2.2 = 0 then (if (!(bt314.1.toList == x298002.toList) || (!(bt314.2.1.toList == x298003.toList) || (!(bt314.2.2.1 == x298004)))) = true then (none) else ((frankinglaw15_awake.f k).bind fun t319 => (some t319))) else (none))) else ((frankinglaw15_awake.f k).bind fun t320 => (some t320))
end
def frankinglaw15_PathBack.f (k : Nat) (a0_0 : Bool) (l0_1 : List ByteArray) (a0_2 : ByteArray) (a0_3 : ByteArray) (a0_4 : Bool) (a1 : ByteArray) : Option (Bool) := (path_Print.f k a0_0 l0_1 a0_2 a0_3 a0_4).bind fun bt298 => ((path_PrintBox.f k a0_2 a0_3 a0_4).bind fun bt300 => ((path_Right.f k a0_0 l0_1 a0_2 a0_3 a0_4).bind fun t302 => (if ((bt298.2 == 0) != t302) = true then (frankinglaw15_PathBack.j0 k a1 bt298.1 bt298.2 bt300.1 bt300.2 true a0_0 l0_1 a0_2 a0_3 a0_4) else (if bt298.2 = 0 then (if bt300.2 = 0 then (frankinglaw15_PathBack.j0 k a1 bt298.1 bt298.2 bt300.1 bt300.2 false a0_0 l0_1 a0_2 a0_3 a0_4) else (if bt300.2 = 150 then (frankinglaw15_PathBack.j0 k a1 bt298.1 bt298.2 bt300.1 bt300.2 (bt300.1.toList != ([] : List UInt8)) a0_0 l0_1 a0_2 a0_3 a0_4) else (frankinglaw15_PathBack.j0 k a1 bt298.1 bt298.2 bt300.1 bt300.2 true a0_0 l0_1 a0_2 a0_3 a0_4))) else (if bt298.2 = 150 then (if bt298.1.toList = ([] : List UInt8) then (if bt300.2 = 0 then (frankinglaw15_PathBack.j0 k a1 bt298.1 bt298.2 bt300.1 bt300.2 false a0_0 l0_1 a0_2 a0_3 a0_4) else (if bt300.2 = 150 then (frankinglaw15_PathBack.j0 k a1 bt298.1 bt298.2 bt300.1 bt300.2 (bt300.1.toList != ([] : List UInt8)) a0_0 l0_1 a0_2 a0_3 a0_4) else (frankinglaw15_PathBack.j0 k a1 bt298.1 bt298.2 bt300.1 bt300.2 true a0_0 l0_1 a0_2 a0_3 a0_4))) else (frankinglaw15_PathBack.j0 k a1 bt298.1 bt298.2 bt300.1 bt300.2 true a0_0 l0_1 a0_2 a0_3 a0_4)) else (frankinglaw15_PathBack.j0 k a1 bt298.1 bt298.2 bt300.1 bt300.2 true a0_0 l0_1 a0_2 a0_3 a0_4))))))
set_option maxHeartbeats 8000000 in
set_option maxRecDepth 100000 in
theorem frankinglaw15_PathBack.calls (k : Nat) (a0_0 : Bool) (A0_1 : Option Addr) (c0_1 : Nat) (l0_1 : List ByteArray) (a0_2 : ByteArray) (a0_3 : ByteArray) (a0_4 : Bool) (a1 : ByteArray) (r : Bool) (w : World) (hr0_1 : Kd.C Kd.string w A0_1 l0_1.length l0_1) (hc0_1 : l0_1.length ≤ c0_1) (hG : GlobalsOK w) (h : frankinglaw15_PathBack.f k a0_0 l0_1 a0_2 a0_3 a0_4 a1 = some r) :
    Calls Tryz.prog 5 #[.agg #[.bool a0_0, .slice A0_1 l0_1.length c0_1, .string a0_2, .string a0_3, .bool a0_4], .string a1] w fun e w' => e = .returned (.bool r) ∧ Below w.heap.size w w' := by
  have hu32 := Tryz.underlying32
  have hu30 := Tryz.underlying30
  have HR0_1 := Aside0.mk hr0_1
  have HC0_1 := Aside0.mk hc0_1
  clear hr0_1 hc0_1
  have HB := Aside0.mk (Below.refl w.heap.size w)
  have HG := Aside0.mk hG
  clear hG
  have H : ((path_Print.f k a0_0 l0_1 a0_2 a0_3 a0_4).bind fun bt298 => ((path_PrintBox.f k a0_2 a0_3 a0_4).bind fun bt300 => ((path_Right.f k a0_0 l0_1 a0_2 a0_3 a0_4).bind fun t302 => (if ((bt298.2 == 0) != t302) = true then (frankinglaw15_PathBack.j0 k a1 bt298.1 bt298.2 bt300.1 bt300.2 true a0_0 l0_1 a0_2 a0_3 a0_4) else (if bt298.2 = 0 then (if bt300.2 = 0 then (frankinglaw15_PathBack.j0 k a1 bt298.1 bt298.2 bt300.1 bt300.2 false a0_0 l0_1 a0_2 a0_3 a0_4) else (if bt300.2 = 150 then (frankinglaw15_PathBack.j0 k a1 bt298.1 bt298.2 bt300.1 bt300.2 (bt300.1.toList != ([] : List UInt8)) a0_0 l0_1 a0_2 a0_3 a0_4) else (frankinglaw15_PathBack.j0 k a1 bt298.1 bt298.2 bt300.1 bt300.2 true a0_0 l0_1 a0_2 a0_3 a0_4))) else (if bt298.2 = 150 then (if bt298.1.toList = ([] : List UInt8) then (if bt300.2 = 0 then (frankinglaw15_PathBack.j0 k a1 bt298.1 bt298.2 bt300.1 bt300.2 false a0_0 l0_1 a0_2 a0_3 a0_4) else (if bt300.2 = 150 then (frankinglaw15_PathBack.j0 k a1 bt298.1 bt298.2 bt300.1 bt300.2 (bt300.1.toList != ([] : List UInt8)) a0_0 l0_1 a0_2 a0_3 a0_4) else (frankinglaw15_PathBack.j0 k a1 bt298.1 bt298.2 bt300.1 bt300.2 true a0_0 l0_1 a0_2 a0_3 a0_4))) else (frankinglaw15_PathBack.j0 k a1 bt298.1 bt298.2 bt300.1 bt300.2 true a0_0 l0_1 a0_2 a0_3 a0_4)) else (frankinglaw15_PathBack.j0 k a1 bt298.1 bt298.2 bt300.1 bt300.2 true a0_0 l0_1 a0_2 a0_3 a0_4))))))) = some r := h
  clear h
  replace H := Option.bind_eq_some_iff.mp H
  obtain ⟨⟨t298, t299⟩, A30, H⟩ := H
  replace H : ((path_PrintBox.f k a0_2 a0_3 a0_4).bind fun bt300 => ((path_Right.f k a0_0 l0_1 a0_2 a0_3 a0_4).bind fun t302 => (if ((t299 == 0) != t302) = true then (frankinglaw15_PathBack.j0 k a1 t298 t299 bt300.1 bt300.2 true a0_0 l0_1 a0_2 a0_3 a0_4) else (if t299 = 0 then (if bt300.2 = 0 then (frankinglaw15_PathBack.j0 k a1 t298 t299 bt300.1 bt300.2 false a0_0 l0_1 a0_2 a0_3 a0_4) else (if bt300.2 = 150 then (frankinglaw15_PathBack.j0 k a1 t298 t299 bt300.1 bt300.2 (bt300.1.toList != ([] : List UInt8)) a0_0 l0_1 a0_2 a0_3 a0_4) else (frankinglaw15_PathBack.j0 k a1 t298 t299 bt300.1 bt300.2 true a0_0 l0_1 a0_2 a0_3 a0_4))) else (if t299 = 150 then (if t298.toList = ([] : List UInt8) then (if bt300.2 = 0 then (frankinglaw15_PathBack.j0 k a1 t298 t299 bt300.1 bt300.2 false a0_0 l0_1 a0_2 a0_3 a0_4) else (if bt300.2 = 150 then (frankinglaw15_PathBack.j0 k a1 t298 t299 bt300.1 bt300.2 (bt300.1.toList != ([] : List UInt8)) a0_0 l0_1 a0_2 a0_3 a0_4) else (frankinglaw15_PathBack.j0 k a1 t298 t299 bt300.1 bt300.2 true a0_0 l0_1 a0_2 a0_3 a0_4))) else (frankinglaw15_PathBack.j0 k a1 t298 t299 bt300.1 bt300.2 true a0_0 l0_1 a0_2 a0_3 a0_4)) else (frankinglaw15_PathBack.j0 k a1 t298 t299 bt300.1 bt300.2 true a0_0 l0_1 a0_2 a0_3 a0_4)))))) = some r := H
  have A3 := Aside0.mk A30
  clear A30
  replace H := Option.bind_eq_some_iff.mp H
  obtain ⟨⟨t300, t301⟩, A40, H⟩ := H
  replace H : ((path_Right.f k a0_0 l0_1 a0_2 a0_3 a0_4).bind fun t302 => (if ((t299 == 0) != t302) = true then (frankinglaw15_PathBack.j0 k a1 t298 t299 t300 t301 true a0_0 l0_1 a0_2 a0_3 a0_4) else (if t299 = 0 then (if t301 = 0 then (frankinglaw15_PathBack.j0 k a1 t298 t299 t300 t301 false a0_0 l0_1 a0_2 a0_3 a0_4) else (if t301 = 150 then (frankinglaw15_PathBack.j0 k a1 t298 t299 t300 t301 (t300.toList != ([] : List UInt8)) a0_0 l0_1 a0_2 a0_3 a0_4) else (frankinglaw15_PathBack.j0 k a1 t298 t299 t300 t301 true a0_0 l0_1 a0_2 a0_3 a0_4))) else (if t299 = 150 then (if t298.toList = ([] : List UInt8) then (if t301 = 0 then (frankinglaw15_PathBack.j0 k a1 t298 t299 t300 t301 false a0_0 l0_1 a0_2 a0_3 a0_4) else (if t301 = 150 then (frankinglaw15_PathBack.j0 k a1 t298 t299 t300 t301 (t300.toList != ([] : List UInt8)) a0_0 l0_1 a0_2 a0_3 a0_4) else (frankinglaw15_PathBack.j0 k a1 t298 t299 t300 t301 true a0_0 l0_1 a0_2 a0_3 a0_4))) else (frankinglaw15_PathBack.j0 k a1 t298 t299 t300 t301 true a0_0 l0_1 a0_2 a0_3 a0_4)) else (frankinglaw15_PathBack.j0 k a1 t298 t299 t300 t301 true a0_0 l0_1 a0_2 a0_3 a0_4))))) = some r := H
  have A4 := Aside0.mk A40
  clear A40
  have HC5 := Aside0.mk H
  clear H
  go_enter Tryz.func5, Tryz.ntmps5
  go_upto_region 3 with (first | ((with_reducible refine gate_dst (N := 2) rfl ?_); (try (refine gate_guard (by rfl) ?_; dsimp only)); refine box_event ?hg (N := 2) ?hd (cs := #[.bool a0_0, .slice A0_1 l0_1.length c0_1, .string a0_2, .string a0_3, .bool a0_4]) (t := 32) ?hr ?_; (case hd => rfl); (case hg => rfl); (case hr => first | (go_simp; done) | (go_simp; rfl)); intro gb297 hg w6 hbox hb; have n0_ := Aside0.mk (below_step (by repeat (first | (with_reducible first | exact HB.out | apply below_alloc | apply pw_below_drewN | apply below_drew1) | exact HB.out)) hb); have n1_ := Aside0.mk (hbox); have n2_ := Aside0.mk ((by rw [hg]; exact (below_size (by repeat (first | (with_reducible first | exact HB.out | apply below_alloc | apply pw_below_drewN | apply below_drew1) | exact HB.out))) : w.heap.size ≤ gb297)); have n3_ := Aside0.mk ((by rw [hg]; exact (below_size (by repeat (first | (with_reducible first | exact HB.out | apply below_alloc | apply pw_below_drewN | apply below_drew1) | exact HB.out))) : w.heap.size ≤ gb297)); clear HB; have HB := n0_; have BK297 := n1_; have GW297 := n2_; have GE297 := n3_; clear n0_ n1_ n2_ n3_; clear hb hbox hg; have hcz7_0 : w6.cell? ⟨gb297, 0, none⟩ = some (.bool a0_0) := (blk_cell BK297.out 0).trans rfl; have hcz7_1 : w6.cell? ⟨gb297, 1, none⟩ = some (.slice A0_1 l0_1.length c0_1) := (blk_cell BK297.out 1).trans rfl; have hcz7_2 : w6.cell? ⟨gb297, 2, none⟩ = some (.string a0_2) := (blk_cell BK297.out 2).trans rfl; have hcz7_3 : w6.cell? ⟨gb297, 3, none⟩ = some (.string a0_3) := (blk_cell BK297.out 3).trans rfl; have hcz7_4 : w6.cell? ⟨gb297, 4, none⟩ = some (.bool a0_4) := (blk_cell BK297.out 4).trans rfl; have hfz7_0 := blk_frozen BK297.out 0; have hfz7_1 := blk_frozen BK297.out 1; have hfz7_2 := blk_frozen BK297.out 2; have hfz7_3 := blk_frozen BK297.out 3; have hfz7_4 := blk_frozen BK297.out 4) | ((with_reducible refine gate_callee (f := 21) rfl ?_); refine goesL_ (some 16) rfl rfl Tryz.func21 (by kernel_rfl) rfl #[.agg #[.bool a0_0, .slice A0_1 l0_1.length c0_1, .string a0_2, .string a0_3, .bool a0_4]] rfl (by (try simp only [List.map_toArray, List.map_cons, List.map_nil]); first | done | rfl | (simp only [List.length_drop, List.length_take]; rfl)) ?_; (with_reducible refine (path_Print.calls k a0_0 _ _ l0_1 a0_2 a0_3 a0_4 t298 t299 _ ?side1 ?side2 ?side3 A3.out).mono ?_); (case side1 => repeat (first | exact (Kd.C_below HR0_1.out HB.out) | (with_reducible refine Kd.C_alloc ?_ _) | (with_reducible refine Kd.C_drewN ?_ _) | (with_reducible refine Kd.C_drew ?_))); (case side2 => exact HC0_1.out); (case side3 => exact GlobalsOK.below HG.out (by repeat (first | (with_reducible first | exact HB.out | apply below_alloc | apply pw_below_drewN | apply below_drew1 | refine below_set ?_ GE297.out) | exact HB.out))); rintro e w8 ⟨rfl, hb⟩; refine ⟨_, rfl, ?_⟩; have n0_ := Aside0.mk (blk_below (g := gb297) (o := .cells #[.bool a0_0, .slice A0_1 l0_1.length c0_1, .string a0_2, .string a0_3, .bool a0_4] 32 (0, 0)) (by (with_reducible repeat (first | refine blk_drewN ?_ _ | refine blk_drew ?_ | refine blk_alloc ?_ _)); exact BK297.out) hb); have n1_ := Aside0.mk (below_step (by repeat (first | (with_reducible first | exact HB.out | apply below_alloc | apply pw_below_drewN | apply below_drew1 | refine below_set ?_ GE297.out) | exact HB.out)) hb); clear BK297; clear HB; have BK297 := n0_; have HB := n1_; clear n0_ n1_; (try clear hb); (try clear hb2); (try clear hk); (try clear hi); have hcz9_0 : w8.cell? ⟨gb297, 0, none⟩ = some (.bool a0_0) := (blk_cell BK297.out 0).trans rfl; have hcz9_1 : w8.cell? ⟨gb297, 1, none⟩ = some (.slice A0_1 l0_1.length c0_1) := (blk_cell BK297.out 1).trans rfl; have hcz9_2 : w8.cell? ⟨gb297, 2, none⟩ = some (.string a0_2) := (blk_cell BK297.out 2).trans rfl; have hcz9_3 : w8.cell? ⟨gb297, 3, none⟩ = some (.string a0_3) := (blk_cell BK297.out 3).trans rfl; have hcz9_4 : w8.cell? ⟨gb297, 4, none⟩ = some (.bool a0_4) := (blk_cell BK297.out 4).trans rfl; have hfz9_0 := blk_frozen BK297.out 0; have hfz9_1 := blk_frozen BK297.out 1; have hfz9_2 := blk_frozen BK297.out 2; have hfz9_3 := blk_frozen BK297.out 3; have hfz9_4 := blk_frozen BK297.out 4) | ((with_reducible refine gate_callee (f := 22) rfl ?_); refine goesL_ (some 22) rfl rfl Tryz.func22 (by kernel_rfl) rfl #[.agg #[.string a0_2, .string a0_3, .bool a0_4]] rfl (by (try simp only [List.map_toArray, List.map_cons, List.map_nil]); first | done | rfl | (simp only [List.length_drop, List.length_take]; rfl)) ?_; (with_reducible refine (path_PrintBox.calls k a0_2 a0_3 a0_4 t300 t301 _ ?side1 A4.out).mono ?_); (case side1 => exact GlobalsOK.below HG.out (by repeat (first | (with_reducible first | exact HB.out | apply below_alloc | apply pw_below_drewN | apply below_drew1 | refine below_set ?_ GE297.out) | exact HB.out))); rintro e w10 ⟨rfl, hb⟩; refine ⟨_, rfl, ?_⟩; have n0_ := Aside0.mk (blk_below (g := gb297) (o := .cells #[.bool a0_0, .slice A0_1 l0_1.length c0_1, .string a0_2, .string a0_3, .bool a0_4] 32 (0, 0)) (by (with_reducible repeat (first | refine blk_drewN ?_ _ | refine blk_drew ?_ | refine blk_alloc ?_ _)); exact BK297.out) hb); have n1_ := Aside0.mk (below_step (by repeat (first | (with_reducible first | exact HB.out | apply below_alloc | apply pw_below_drewN | apply below_drew1 | refine below_set ?_ GE297.out) | exact HB.out)) hb); clear BK297; clear HB; have BK297 := n0_; have HB := n1_; clear n0_ n1_; (try clear hb); (try clear hb2); (try clear hk); (try clear hi)))
  (try simp only [Act.put, List.setIfInBounds_toArray, List.set_cons_zero, List.set_cons_succ])
  go_cut [53] (fun v53 wc => ∃ (kq : Nat) (x53_4 : Bool), v53 = .bool x53_4 ∧ Aside0 (frankinglaw15_PathBack.j0 kq a1 t298 t299 t300 t301 x53_4 a0_0 l0_1 a0_2 a0_3 a0_4 = some r) ∧ Aside0 (kq ≤ k) ∧ Aside0 (wc.heap[gb297]? = some (.cells #[.bool a0_0, (.slice A0_1 l0_1.length c0_1), .string a0_2, .string a0_3, .bool a0_4] 32 (0, 0))) ∧ Aside0 (Below w.heap.size w wc))
  case first =>
    have H := HC5.out
    clear HC5
    replace H := Option.bind_eq_some_iff.mp H
    obtain ⟨t302, A110, H⟩ := H
    replace H : (if ((t299 == 0) != t302) = true then (frankinglaw15_PathBack.j0 k a1 t298 t299 t300 t301 true a0_0 l0_1 a0_2 a0_3 a0_4) else (if t299 = 0 then (if t301 = 0 then (frankinglaw15_PathBack.j0 k a1 t298 t299 t300 t301 false a0_0 l0_1 a0_2 a0_3 a0_4) else (if t301 = 150 then (frankinglaw15_PathBack.j0 k a1 t298 t299 t300 t301 (t300.toList != ([] : List UInt8)) a0_0 l0_1 a0_2 a0_3 a0_4) else (frankinglaw15_PathBack.j0 k a1 t298 t299 t300 t301 true a0_0 l0_1 a0_2 a0_3 a0_4))) else (if t299 = 150 then (if t298.toList = ([] : List UInt8) then (if t301 = 0 then (frankinglaw15_PathBack.j0 k a1 t298 t299 t300 t301 false a0_0 l0_1 a0_2 a0_3 a0_4) else (if t301 = 150 then (frankinglaw15_PathBack.j0 k a1 t298 t299 t300 t301 (t300.toList != ([] : List UInt8)) a0_0 l0_1 a0_2 a0_3 a0_4) else (frankinglaw15_PathBack.j0 k a1 t298 t299 t300 t301 true a0_0 l0_1 a0_2 a0_3 a0_4))) else (frankinglaw15_PathBack.j0 k a1 t298 t299 t300 t301 true a0_0 l0_1 a0_2 a0_3 a0_4)) else (frankinglaw15_PathBack.j0 k a1 t298 t299 t300 t301 true a0_0 l0_1 a0_2 a0_3 a0_4)))) = some r := H
    have A11 := Aside0.mk A110
    clear A110
    by_cases c12 : ((t299 == 0) != t302) = true
    · rw [if_pos c12] at H
      have c12b0 : ((t299 == 0) != t302) = true := c12
      (try (have c12b1 : decide ((t299 == 0) = t302) = false := by simpa using c12))
      (try (have c12b2 : ((t299 == 0) == t302) = false := by simpa using c12))
      (try (have c12b3 : ¬ ((t299 == 0) = t302) := by simpa using c12))
      clear c12
      (first | rw [c12b0] | (simp only [i64_w, i32_w]; rw [c12b0]) | skip)
      have H' := Aside0.mk H
      clear H
      have hcz13_0 : w10.cell? ⟨gb297, 0, none⟩ = some (.bool a0_0) := (blk_cell BK297.out 0).trans rfl
      have hcz13_1 : w10.cell? ⟨gb297, 1, none⟩ = some (.slice A0_1 l0_1.length c0_1) := (blk_cell BK297.out 1).trans rfl
      have hcz13_2 : w10.cell? ⟨gb297, 2, none⟩ = some (.string a0_2) := (blk_cell BK297.out 2).trans rfl
      have hcz13_3 : w10.cell? ⟨gb297, 3, none⟩ = some (.string a0_3) := (blk_cell BK297.out 3).trans rfl
      have hcz13_4 : w10.cell? ⟨gb297, 4, none⟩ = some (.bool a0_4) := (blk_cell BK297.out 4).trans rfl
      have hfz13_0 := blk_frozen BK297.out 0
      have hfz13_1 := blk_frozen BK297.out 1
      have hfz13_2 := blk_frozen BK297.out 2
      have hfz13_3 := blk_frozen BK297.out 3
      have hfz13_4 := blk_frozen BK297.out 4
      go_wp2_with (first | ((with_reducible refine gate_callee (f := 20) rfl ?_); refine goesL_ (some 28) rfl rfl Tryz.func20 (by kernel_rfl) rfl #[.agg #[.bool a0_0, .slice A0_1 l0_1.length c0_1, .string a0_2, .string a0_3, .bool a0_4]] rfl (by (try simp only [List.map_toArray, List.map_cons, List.map_nil]); first | done | rfl | (simp only [List.length_drop, List.length_take]; rfl)) ?_; (with_reducible refine (path_Right.calls k a0_0 _ _ l0_1 a0_2 a0_3 a0_4 t302 _ ?side1 ?side2 ?side3 A11.out).mono ?_); (case side1 => repeat (first | exact (Kd.C_below HR0_1.out HB.out) | (with_reducible refine Kd.C_alloc ?_ _) | (with_reducible refine Kd.C_drewN ?_ _) | (with_reducible refine Kd.C_drew ?_))); (case side2 => exact HC0_1.out); (case side3 => exact GlobalsOK.below HG.out (by repeat (first | (with_reducible first | exact HB.out | apply below_alloc | apply pw_below_drewN | apply below_drew1 | refine below_set ?_ GE297.out) | exact HB.out))); rintro e w14 ⟨rfl, hb⟩; refine ⟨_, rfl, ?_⟩; have n0_ := Aside0.mk (blk_below (g := gb297) (o := .cells #[.bool a0_0, .slice A0_1 l0_1.length c0_1, .string a0_2, .string a0_3, .bool a0_4] 32 (0, 0)) (by (with_reducible repeat (first | refine blk_drewN ?_ _ | refine blk_drew ?_ | refine blk_alloc ?_ _)); exact BK297.out) hb); have n1_ := Aside0.mk (below_step (by repeat (first | (with_reducible first | exact HB.out | apply below_alloc | apply pw_below_drewN | apply below_drew1 | refine below_set ?_ GE297.out) | exact HB.out)) hb); clear BK297; clear HB; have BK297 := n0_; have HB := n1_; clear n0_ n1_; (try clear hb); (try clear hb2); (try clear hk); (try clear hi)))
      go_meet
      case rel => exact ⟨_, (true), (by first | rfl | (simp; done) | (simp [*]; done)), H', ⟨by first | omega | exact Nat.le_refl _⟩, ⟨by (with_reducible repeat (first | refine blk_drewN ?_ _ | refine blk_drew ?_ | refine blk_alloc ?_ _)); exact BK297.out⟩, ⟨by repeat (first | (with_reducible first | exact HB.out | apply below_alloc | apply pw_below_drewN | apply below_drew1 | refine below_set ?_ GE297.out) | exact HB.out)⟩⟩
    · rw [if_neg c12] at H
      have c12b0 : ((t299 == 0) != t302) = false := by simpa using c12
      (try (have c12b1 : decide ((t299 == 0) = t302) = true := by simpa using c12))
      (try (have c12b2 : ((t299 == 0) == t302) = true := by simpa using c12))
      clear c12
      (first | rw [c12b0] | (simp only [i64_w, i32_w]; rw [c12b0]) | skip)
      by_cases c15 : t299 = 0
      · rw [if_pos c15] at H
        have c15b0 : (t299 == 0) = true := beq_iff_eq.mpr c15
        have ht : t302 = true := by rw [c15b0] at c12b0; revert c12b0; cases t302 <;> decide
        subst ht
        (try clear c12b0)
        (try clear c12b1)
        (try clear c12b2)
        have c15b1 : (t299 != 0) = false := bne_eq_false_iff_eq.mpr c15
        clear c15
        by_cases c16 : t301 = 0
        · rw [if_pos c16] at H
          have c16b0 : (t301 == 0) = true := beq_iff_eq.mpr c16
          have c16b1 : (t301 != 0) = false := bne_eq_false_iff_eq.mpr c16
          clear c16
          have H' := Aside0.mk H
          clear H
          have hcz17_0 : w10.cell? ⟨gb297, 0, none⟩ = some (.bool a0_0) := (blk_cell BK297.out 0).trans rfl
          have hcz17_1 : w10.cell? ⟨gb297, 1, none⟩ = some (.slice A0_1 l0_1.length c0_1) := (blk_cell BK297.out 1).trans rfl
          have hcz17_2 : w10.cell? ⟨gb297, 2, none⟩ = some (.string a0_2) := (blk_cell BK297.out 2).trans rfl
          have hcz17_3 : w10.cell? ⟨gb297, 3, none⟩ = some (.string a0_3) := (blk_cell BK297.out 3).trans rfl
          have hcz17_4 : w10.cell? ⟨gb297, 4, none⟩ = some (.bool a0_4) := (blk_cell BK297.out 4).trans rfl
          have hfz17_0 := blk_frozen BK297.out 0
          have hfz17_1 := blk_frozen BK297.out 1
          have hfz17_2 := blk_frozen BK297.out 2
          have hfz17_3 := blk_frozen BK297.out 3
          have hfz17_4 := blk_frozen BK297.out 4
          go_wp2_with (first | ((with_reducible refine gate_callee (f := 20) rfl ?_); refine goesL_ (some 28) rfl rfl Tryz.func20 (by kernel_rfl) rfl #[.agg #[.bool a0_0, .slice A0_1 l0_1.length c0_1, .string a0_2, .string a0_3, .bool a0_4]] rfl (by (try simp only [List.map_toArray, List.map_cons, List.map_nil]); first | done | rfl | (simp only [List.length_drop, List.length_take]; rfl)) ?_; (with_reducible refine (path_Right.calls k a0_0 _ _ l0_1 a0_2 a0_3 a0_4 true _ ?side1 ?side2 ?side3 A11.out).mono ?_); (case side1 => repeat (first | exact (Kd.C_below HR0_1.out HB.out) | (with_reducible refine Kd.C_alloc ?_ _) | (with_reducible refine Kd.C_drewN ?_ _) | (with_reducible refine Kd.C_drew ?_))); (case side2 => exact HC0_1.out); (case side3 => exact GlobalsOK.below HG.out (by repeat (first | (with_reducible first | exact HB.out | apply below_alloc | apply pw_below_drewN | apply below_drew1 | refine below_set ?_ GE297.out) | exact HB.out))); rintro e w18 ⟨rfl, hb⟩; refine ⟨_, rfl, ?_⟩; have n0_ := Aside0.mk (blk_below (g := gb297) (o := .cells #[.bool a0_0, .slice A0_1 l0_1.length c0_1, .string a0_2, .string a0_3, .bool a0_4] 32 (0, 0)) (by (with_reducible repeat (first | refine blk_drewN ?_ _ | refine blk_drew ?_ | refine blk_alloc ?_ _)); exact BK297.out) hb); have n1_ := Aside0.mk (below_step (by repeat (first | (with_reducible first | exact HB.out | apply below_alloc | apply pw_below_drewN | apply below_drew1 | refine below_set ?_ GE297.out) | exact HB.out)) hb); clear BK297; clear HB; have BK297 := n0_; have HB := n1_; clear n0_ n1_; (try clear hb); (try clear hb2); (try clear hk); (try clear hi)))
          go_meet
          case rel => exact ⟨_, (false), (by first | rfl | (simp; done) | (simp [*]; done)), H', ⟨by first | omega | exact Nat.le_refl _⟩, ⟨by (with_reducible repeat (first | refine blk_drewN ?_ _ | refine blk_drew ?_ | refine blk_alloc ?_ _)); exact BK297.out⟩, ⟨by repeat (first | (with_reducible first | exact HB.out | apply below_alloc | apply pw_below_drewN | apply below_drew1 | refine below_set ?_ GE297.out) | exact HB.out)⟩⟩
        · rw [if_neg c16] at H
          have c16b0 : (t301 == 0) = false := beq_eq_false_iff_ne.mpr c16
          have c16b1 : (t301 != 0) = true := bne_iff_ne.mpr c16
          by_cases c19 : t301 = 150
          · rw [if_pos c19] at H
            have c19b0 : (t301 == 150) = true := beq_iff_eq.mpr c19
            have c19b1 : (t301 != 150) = false := bne_eq_false_iff_eq.mpr c19
            clear c19
            have H' := Aside0.mk H
            clear H
            have hcz20_0 : w10.cell? ⟨gb297, 0, none⟩ = some (.bool a0_0) := (blk_cell BK297.out 0).trans rfl
            have hcz20_1 : w10.cell? ⟨gb297, 1, none⟩ = some (.slice A0_1 l0_1.length c0_1) := (blk_cell BK297.out 1).trans rfl
            have hcz20_2 : w10.cell? ⟨gb297, 2, none⟩ = some (.string a0_2) := (blk_cell BK297.out 2).trans rfl
            have hcz20_3 : w10.cell? ⟨gb297, 3, none⟩ = some (.string a0_3) := (blk_cell BK297.out 3).trans rfl
            have hcz20_4 : w10.cell? ⟨gb297, 4, none⟩ = some (.bool a0_4) := (blk_cell BK297.out 4).trans rfl
            have hfz20_0 := blk_frozen BK297.out 0
            have hfz20_1 := blk_frozen BK297.out 1
            have hfz20_2 := blk_frozen BK297.out 2
            have hfz20_3 := blk_frozen BK297.out 3
            have hfz20_4 := blk_frozen BK297.out 4
            go_wp2_with (first | ((with_reducible refine gate_callee (f := 20) rfl ?_); refine goesL_ (some 28) rfl rfl Tryz.func20 (by kernel_rfl) rfl #[.agg #[.bool a0_0, .slice A0_1 l0_1.length c0_1, .string a0_2, .string a0_3, .bool a0_4]] rfl (by (try simp only [List.map_toArray, List.map_cons, List.map_nil]); first | done | rfl | (simp only [List.length_drop, List.length_take]; rfl)) ?_; (with_reducible refine (path_Right.calls k a0_0 _ _ l0_1 a0_2 a0_3 a0_4 true _ ?side1 ?side2 ?side3 A11.out).mono ?_); (case side1 => repeat (first | exact (Kd.C_below HR0_1.out HB.out) | (with_reducible refine Kd.C_alloc ?_ _) | (with_reducible refine Kd.C_drewN ?_ _) | (with_reducible refine Kd.C_drew ?_))); (case side2 => exact HC0_1.out); (case side3 => exact GlobalsOK.below HG.out (by repeat (first | (with_reducible first | exact HB.out | apply below_alloc | apply pw_below_drewN | apply below_drew1 | refine below_set ?_ GE297.out) | exact HB.out))); rintro e w21 ⟨rfl, hb⟩; refine ⟨_, rfl, ?_⟩; have n0_ := Aside0.mk (blk_below (g := gb297) (o := .cells #[.bool a0_0, .slice A0_1 l0_1.length c0_1, .string a0_2, .string a0_3, .bool a0_4] 32 (0, 0)) (by (with_reducible repeat (first | refine blk_drewN ?_ _ | refine blk_drew ?_ | refine blk_alloc ?_ _)); exact BK297.out) hb); have n1_ := Aside0.mk (below_step (by repeat (first | (with_reducible first | exact HB.out | apply below_alloc | apply pw_below_drewN | apply below_drew1 | refine below_set ?_ GE297.out) | exact HB.out)) hb); clear BK297; clear HB; have BK297 := n0_; have HB := n1_; clear n0_ n1_; (try clear hb); (try clear hb2); (try clear hk); (try clear hi)))
            go_meet
            case rel => exact ⟨_, ((t300.toList != ([] : List UInt8))), (by first | rfl | (cases t300.toList <;> rfl) | (simp; done) | (simp [*]; done)), H', ⟨by first | omega | exact Nat.le_refl _⟩, ⟨by (with_reducible repeat (first | refine blk_drewN ?_ _ | refine blk_drew ?_ | refine blk_alloc ?_ _)); exact BK297.out⟩, ⟨by repeat (first | (with_reducible first | exact HB.out | apply below_alloc | apply pw_below_drewN | apply below_drew1 | refine below_set ?_ GE297.out) | exact HB.out)⟩⟩
          · rw [if_neg c19] at H
            have c19b0 : (t301 == 150) = false := beq_eq_false_iff_ne.mpr c19
            have c19b1 : (t301 != 150) = true := bne_iff_ne.mpr c19
            have H' := Aside0.mk H
            clear H
            have hcz22_0 : w10.cell? ⟨gb297, 0, none⟩ = some (.bool a0_0) := (blk_cell BK297.out 0).trans rfl
            have hcz22_1 : w10.cell? ⟨gb297, 1, none⟩ = some (.slice A0_1 l0_1.length c0_1) := (blk_cell BK297.out 1).trans rfl
            have hcz22_2 : w10.cell? ⟨gb297, 2, none⟩ = some (.string a0_2) := (blk_cell BK297.out 2).trans rfl
            have hcz22_3 : w10.cell? ⟨gb297, 3, none⟩ = some (.string a0_3) := (blk_cell BK297.out 3).trans rfl
            have hcz22_4 : w10.cell? ⟨gb297, 4, none⟩ = some (.bool a0_4) := (blk_cell BK297.out 4).trans rfl
            have hfz22_0 := blk_frozen BK297.out 0
            have hfz22_1 := blk_frozen BK297.out 1
            have hfz22_2 := blk_frozen BK297.out 2
            have hfz22_3 := blk_frozen BK297.out 3
            have hfz22_4 := blk_frozen BK297.out 4
            go_wp2_with (first | ((with_reducible refine gate_callee (f := 20) rfl ?_); refine goesL_ (some 28) rfl rfl Tryz.func20 (by kernel_rfl) rfl #[.agg #[.bool a0_0, .slice A0_1 l0_1.length c0_1, .string a0_2, .string a0_3, .bool a0_4]] rfl (by (try simp only [List.map_toArray, List.map_cons, List.map_nil]); first | done | rfl | (simp only [List.length_drop, List.length_take]; rfl)) ?_; (with_reducible refine (path_Right.calls k a0_0 _ _ l0_1 a0_2 a0_3 a0_4 true _ ?side1 ?side2 ?side3 A11.out).mono ?_); (case side1 => repeat (first | exact (Kd.C_below HR0_1.out HB.out) | (with_reducible refine Kd.C_alloc ?_ _) | (with_reducible refine Kd.C_drewN ?_ _) | (with_reducible refine Kd.C_drew ?_))); (case side2 => exact HC0_1.out); (case side3 => exact GlobalsOK.below HG.out (by repeat (first | (with_reducible first | exact HB.out | apply below_alloc | apply pw_below_drewN | apply below_drew1 | refine below_set ?_ GE297.out) | exact HB.out))); rintro e w23 ⟨rfl, hb⟩; refine ⟨_, rfl, ?_⟩; have n0_ := Aside0.mk (blk_below (g := gb297) (o := .cells #[.bool a0_0, .slice A0_1 l0_1.length c0_1, .string a0_2, .string a0_3, .bool a0_4] 32 (0, 0)) (by (with_reducible repeat (first | refine blk_drewN ?_ _ | refine blk_drew ?_ | refine blk_alloc ?_ _)); exact BK297.out) hb); have n1_ := Aside0.mk (below_step (by repeat (first | (with_reducible first | exact HB.out | apply below_alloc | apply pw_below_drewN | apply below_drew1 | refine below_set ?_ GE297.out) | exact HB.out)) hb); clear BK297; clear HB; have BK297 := n0_; have HB := n1_; clear n0_ n1_; (try clear hb); (try clear hb2); (try clear hk); (try clear hi)))
            go_meet
            case rel => exact ⟨_, (true), (by first | rfl | (simp; done) | (simp [*]; done)), H', ⟨by first | omega | exact Nat.le_refl _⟩, ⟨by (with_reducible repeat (first | refine blk_drewN ?_ _ | refine blk_drew ?_ | refine blk_alloc ?_ _)); exact BK297.out⟩, ⟨by repeat (first | (with_reducible first | exact HB.out | apply below_alloc | apply pw_below_drewN | apply below_drew1 | refine below_set ?_ GE297.out) | exact HB.out)⟩⟩
      · rw [if_neg c15] at H
        have c15b0 : (t299 == 0) = false := beq_eq_false_iff_ne.mpr c15
        have ht : t302 = false := by rw [c15b0] at c12b0; revert c12b0; cases t302 <;> decide
        subst ht
        (try clear c12b0)
        (try clear c12b1)
        (try clear c12b2)
        have c15b1 : (t299 != 0) = true := bne_iff_ne.mpr c15
        by_cases c24 : t299 = 150
        · rw [if_pos c24] at H
          have c24b0 : (t299 == 150) = true := beq_iff_eq.mpr c24
          have c24b1 : (t299 != 150) = false := bne_eq_false_iff_eq.mpr c24
          clear c24
          by_cases c25 : t298.toList = ([] : List UInt8)
          · rw [if_pos c25] at H
            have c25b0 : (t298.toList == ([] : List UInt8)) = true := beq_iff_eq.mpr c25
            have c25b1 : (t298.toList != ([] : List UInt8)) = false := bne_eq_false_iff_eq.mpr c25
            clear c25
            by_cases c26 : t301 = 0
            · rw [if_pos c26] at H
              have c26b0 : (t301 == 0) = true := beq_iff_eq.mpr c26
              have c26b1 : (t301 != 0) = false := bne_eq_false_iff_eq.mpr c26
              clear c26
              have H' := Aside0.mk H
              clear H
              have hcz27_0 : w10.cell? ⟨gb297, 0, none⟩ = some (.bool a0_0) := (blk_cell BK297.out 0).trans rfl
              have hcz27_1 : w10.cell? ⟨gb297, 1, none⟩ = some (.slice A0_1 l0_1.length c0_1) := (blk_cell BK297.out 1).trans rfl
              have hcz27_2 : w10.cell? ⟨gb297, 2, none⟩ = some (.string a0_2) := (blk_cell BK297.out 2).trans rfl
              have hcz27_3 : w10.cell? ⟨gb297, 3, none⟩ = some (.string a0_3) := (blk_cell BK297.out 3).trans rfl
              have hcz27_4 : w10.cell? ⟨gb297, 4, none⟩ = some (.bool a0_4) := (blk_cell BK297.out 4).trans rfl
              have hfz27_0 := blk_frozen BK297.out 0
              have hfz27_1 := blk_frozen BK297.out 1
              have hfz27_2 := blk_frozen BK297.out 2
              have hfz27_3 := blk_frozen BK297.out 3
              have hfz27_4 := blk_frozen BK297.out 4
              go_wp2_with (first | ((with_reducible refine gate_callee (f := 20) rfl ?_); refine goesL_ (some 28) rfl rfl Tryz.func20 (by kernel_rfl) rfl #[.agg #[.bool a0_0, .slice A0_1 l0_1.length c0_1, .string a0_2, .string a0_3, .bool a0_4]] rfl (by (try simp only [List.map_toArray, List.map_cons, List.map_nil]); first | done | rfl | (simp only [List.length_drop, List.length_take]; rfl)) ?_; (with_reducible refine (path_Right.calls k a0_0 _ _ l0_1 a0_2 a0_3 a0_4 false _ ?side1 ?side2 ?side3 A11.out).mono ?_); (case side1 => repeat (first | exact (Kd.C_below HR0_1.out HB.out) | (with_reducible refine Kd.C_alloc ?_ _) | (with_reducible refine Kd.C_drewN ?_ _) | (with_reducible refine Kd.C_drew ?_))); (case side2 => exact HC0_1.out); (case side3 => exact GlobalsOK.below HG.out (by repeat (first | (with_reducible first | exact HB.out | apply below_alloc | apply pw_below_drewN | apply below_drew1 | refine below_set ?_ GE297.out) | exact HB.out))); rintro e w28 ⟨rfl, hb⟩; refine ⟨_, rfl, ?_⟩; have n0_ := Aside0.mk (blk_below (g := gb297) (o := .cells #[.bool a0_0, .slice A0_1 l0_1.length c0_1, .string a0_2, .string a0_3, .bool a0_4] 32 (0, 0)) (by (with_reducible repeat (first | refine blk_drewN ?_ _ | refine blk_drew ?_ | refine blk_alloc ?_ _)); exact BK297.out) hb); have n1_ := Aside0.mk (below_step (by repeat (first | (with_reducible first | exact HB.out | apply below_alloc | apply pw_below_drewN | apply below_drew1 | refine below_set ?_ GE297.out) | exact HB.out)) hb); clear BK297; clear HB; have BK297 := n0_; have HB := n1_; clear n0_ n1_; (try clear hb); (try clear hb2); (try clear hk); (try clear hi)))
              go_meet
              case rel => exact ⟨_, (false), (by first | rfl | (simp; done) | (simp [*]; done)), H', ⟨by first | omega | exact Nat.le_refl _⟩, ⟨by (with_reducible repeat (first | refine blk_drewN ?_ _ | refine blk_drew ?_ | refine blk_alloc ?_ _)); exact BK297.out⟩, ⟨by repeat (first | (with_reducible first | exact HB.out | apply below_alloc | apply pw_below_drewN | apply below_drew1 | refine below_set ?_ GE297.out) | exact HB.out)⟩⟩
            · rw [if_neg c26] at H
              have c26b0 : (t301 == 0) = false := beq_eq_false_iff_ne.mpr c26
              have c26b1 : (t301 != 0) = true := bne_iff_ne.mpr c26
              by_cases c29 : t301 = 150
              · rw [if_pos c29] at H
                have c29b0 : (t301 == 150) = true := beq_iff_eq.mpr c29
                have c29b1 : (t301 != 150) = false := bne_eq_false_iff_eq.mpr c29
                clear c29
                have H' := Aside0.mk H
                clear H
                have hcz30_0 : w10.cell? ⟨gb297, 0, none⟩ = some (.bool a0_0) := (blk_cell BK297.out 0).trans rfl
                have hcz30_1 : w10.cell? ⟨gb297, 1, none⟩ = some (.slice A0_1 l0_1.length c0_1) := (blk_cell BK297.out 1).trans rfl
                have hcz30_2 : w10.cell? ⟨gb297, 2, none⟩ = some (.string a0_2) := (blk_cell BK297.out 2).trans rfl
                have hcz30_3 : w10.cell? ⟨gb297, 3, none⟩ = some (.string a0_3) := (blk_cell BK297.out 3).trans rfl
                have hcz30_4 : w10.cell? ⟨gb297, 4, none⟩ = some (.bool a0_4) := (blk_cell BK297.out 4).trans rfl
                have hfz30_0 := blk_frozen BK297.out 0
                have hfz30_1 := blk_frozen BK297.out 1
                have hfz30_2 := blk_frozen BK297.out 2
                have hfz30_3 := blk_frozen BK297.out 3
                have hfz30_4 := blk_frozen BK297.out 4
                go_wp2_with (first | ((with_reducible refine gate_callee (f := 20) rfl ?_); refine goesL_ (some 28) rfl rfl Tryz.func20 (by kernel_rfl) rfl #[.agg #[.bool a0_0, .slice A0_1 l0_1.length c0_1, .string a0_2, .string a0_3, .bool a0_4]] rfl (by (try simp only [List.map_toArray, List.map_cons, List.map_nil]); first | done | rfl | (simp only [List.length_drop, List.length_take]; rfl)) ?_; (with_reducible refine (path_Right.calls k a0_0 _ _ l0_1 a0_2 a0_3 a0_4 false _ ?side1 ?side2 ?side3 A11.out).mono ?_); (case side1 => repeat (first | exact (Kd.C_below HR0_1.out HB.out) | (with_reducible refine Kd.C_alloc ?_ _) | (with_reducible refine Kd.C_drewN ?_ _) | (with_reducible refine Kd.C_drew ?_))); (case side2 => exact HC0_1.out); (case side3 => exact GlobalsOK.below HG.out (by repeat (first | (with_reducible first | exact HB.out | apply below_alloc | apply pw_below_drewN | apply below_drew1 | refine below_set ?_ GE297.out) | exact HB.out))); rintro e w31 ⟨rfl, hb⟩; refine ⟨_, rfl, ?_⟩; have n0_ := Aside0.mk (blk_below (g := gb297) (o := .cells #[.bool a0_0, .slice A0_1 l0_1.length c0_1, .string a0_2, .string a0_3, .bool a0_4] 32 (0, 0)) (by (with_reducible repeat (first | refine blk_drewN ?_ _ | refine blk_drew ?_ | refine blk_alloc ?_ _)); exact BK297.out) hb); have n1_ := Aside0.mk (below_step (by repeat (first | (with_reducible first | exact HB.out | apply below_alloc | apply pw_below_drewN | apply below_drew1 | refine below_set ?_ GE297.out) | exact HB.out)) hb); clear BK297; clear HB; have BK297 := n0_; have HB := n1_; clear n0_ n1_; (try clear hb); (try clear hb2); (try clear hk); (try clear hi)))
                go_meet
                case rel => exact ⟨_, ((t300.toList != ([] : List UInt8))), (by first | rfl | (cases t300.toList <;> rfl) | (simp; done) | (simp [*]; done)), H', ⟨by first | omega | exact Nat.le_refl _⟩, ⟨by (with_reducible repeat (first | refine blk_drewN ?_ _ | refine blk_drew ?_ | refine blk_alloc ?_ _)); exact BK297.out⟩, ⟨by repeat (first | (with_reducible first | exact HB.out | apply below_alloc | apply pw_below_drewN | apply below_drew1 | refine below_set ?_ GE297.out) | exact HB.out)⟩⟩
              · rw [if_neg c29] at H
                have c29b0 : (t301 == 150) = false := beq_eq_false_iff_ne.mpr c29
                have c29b1 : (t301 != 150) = true := bne_iff_ne.mpr c29
                have H' := Aside0.mk H
                clear H
                have hcz32_0 : w10.cell? ⟨gb297, 0, none⟩ = some (.bool a0_0) := (blk_cell BK297.out 0).trans rfl
                have hcz32_1 : w10.cell? ⟨gb297, 1, none⟩ = some (.slice A0_1 l0_1.length c0_1) := (blk_cell BK297.out 1).trans rfl
                have hcz32_2 : w10.cell? ⟨gb297, 2, none⟩ = some (.string a0_2) := (blk_cell BK297.out 2).trans rfl
                have hcz32_3 : w10.cell? ⟨gb297, 3, none⟩ = some (.string a0_3) := (blk_cell BK297.out 3).trans rfl
                have hcz32_4 : w10.cell? ⟨gb297, 4, none⟩ = some (.bool a0_4) := (blk_cell BK297.out 4).trans rfl
                have hfz32_0 := blk_frozen BK297.out 0
                have hfz32_1 := blk_frozen BK297.out 1
                have hfz32_2 := blk_frozen BK297.out 2
                have hfz32_3 := blk_frozen BK297.out 3
                have hfz32_4 := blk_frozen BK297.out 4
                go_wp2_with (first | ((with_reducible refine gate_callee (f := 20) rfl ?_); refine goesL_ (some 28) rfl rfl Tryz.func20 (by kernel_rfl) rfl #[.agg #[.bool a0_0, .slice A0_1 l0_1.length c0_1, .string a0_2, .string a0_3, .bool a0_4]] rfl (by (try simp only [List.map_toArray, List.map_cons, List.map_nil]); first | done | rfl | (simp only [List.length_drop, List.length_take]; rfl)) ?_; (with_reducible refine (path_Right.calls k a0_0 _ _ l0_1 a0_2 a0_3 a0_4 false _ ?side1 ?side2 ?side3 A11.out).mono ?_); (case side1 => repeat (first | exact (Kd.C_below HR0_1.out HB.out) | (with_reducible refine Kd.C_alloc ?_ _) | (with_reducible refine Kd.C_drewN ?_ _) | (with_reducible refine Kd.C_drew ?_))); (case side2 => exact HC0_1.out); (case side3 => exact GlobalsOK.below HG.out (by repeat (first | (with_reducible first | exact HB.out | apply below_alloc | apply pw_below_drewN | apply below_drew1 | refine below_set ?_ GE297.out) | exact HB.out))); rintro e w33 ⟨rfl, hb⟩; refine ⟨_, rfl, ?_⟩; have n0_ := Aside0.mk (blk_below (g := gb297) (o := .cells #[.bool a0_0, .slice A0_1 l0_1.length c0_1, .string a0_2, .string a0_3, .bool a0_4] 32 (0, 0)) (by (with_reducible repeat (first | refine blk_drewN ?_ _ | refine blk_drew ?_ | refine blk_alloc ?_ _)); exact BK297.out) hb); have n1_ := Aside0.mk (below_step (by repeat (first | (with_reducible first | exact HB.out | apply below_alloc | apply pw_below_drewN | apply below_drew1 | refine below_set ?_ GE297.out) | exact HB.out)) hb); clear BK297; clear HB; have BK297 := n0_; have HB := n1_; clear n0_ n1_; (try clear hb); (try clear hb2); (try clear hk); (try clear hi)))
                go_meet
                case rel => exact ⟨_, (true), (by first | rfl | (simp; done) | (simp [*]; done)), H', ⟨by first | omega | exact Nat.le_refl _⟩, ⟨by (with_reducible repeat (first | refine blk_drewN ?_ _ | refine blk_drew ?_ | refine blk_alloc ?_ _)); exact BK297.out⟩, ⟨by repeat (first | (with_reducible first | exact HB.out | apply below_alloc | apply pw_below_drewN | apply below_drew1 | refine below_set ?_ GE297.out) | exact HB.out)⟩⟩
          · rw [if_neg c25] at H
            have c25b0 : (t298.toList == ([] : List UInt8)) = false := beq_eq_false_iff_ne.mpr c25
            have c25b1 : (t298.toList != ([] : List UInt8)) = true := bne_iff_ne.mpr c25
            have H' := Aside0.mk H
            clear H
            have hcz34_0 : w10.cell? ⟨gb297, 0, none⟩ = some (.bool a0_0) := (blk_cell BK297.out 0).trans rfl
            have hcz34_1 : w10.cell? ⟨gb297, 1, none⟩ = some (.slice A0_1 l0_1.length c0_1) := (blk_cell BK297.out 1).trans rfl
            have hcz34_2 : w10.cell? ⟨gb297, 2, none⟩ = some (.string a0_2) := (blk_cell BK297.out 2).trans rfl
            have hcz34_3 : w10.cell? ⟨gb297, 3, none⟩ = some (.string a0_3) := (blk_cell BK297.out 3).trans rfl
            have hcz34_4 : w10.cell? ⟨gb297, 4, none⟩ = some (.bool a0_4) := (blk_cell BK297.out 4).trans rfl
            have hfz34_0 := blk_frozen BK297.out 0
            have hfz34_1 := blk_frozen BK297.out 1
            have hfz34_2 := blk_frozen BK297.out 2
            have hfz34_3 := blk_frozen BK297.out 3
            have hfz34_4 := blk_frozen BK297.out 4
            go_wp2_with (first | ((with_reducible refine gate_callee (f := 20) rfl ?_); refine goesL_ (some 28) rfl rfl Tryz.func20 (by kernel_rfl) rfl #[.agg #[.bool a0_0, .slice A0_1 l0_1.length c0_1, .string a0_2, .string a0_3, .bool a0_4]] rfl (by (try simp only [List.map_toArray, List.map_cons, List.map_nil]); first | done | rfl | (simp only [List.length_drop, List.length_take]; rfl)) ?_; (with_reducible refine (path_Right.calls k a0_0 _ _ l0_1 a0_2 a0_3 a0_4 false _ ?side1 ?side2 ?side3 A11.out).mono ?_); (case side1 => repeat (first | exact (Kd.C_below HR0_1.out HB.out) | (with_reducible refine Kd.C_alloc ?_ _) | (with_reducible refine Kd.C_drewN ?_ _) | (with_reducible refine Kd.C_drew ?_))); (case side2 => exact HC0_1.out); (case side3 => exact GlobalsOK.below HG.out (by repeat (first | (with_reducible first | exact HB.out | apply below_alloc | apply pw_below_drewN | apply below_drew1 | refine below_set ?_ GE297.out) | exact HB.out))); rintro e w35 ⟨rfl, hb⟩; refine ⟨_, rfl, ?_⟩; have n0_ := Aside0.mk (blk_below (g := gb297) (o := .cells #[.bool a0_0, .slice A0_1 l0_1.length c0_1, .string a0_2, .string a0_3, .bool a0_4] 32 (0, 0)) (by (with_reducible repeat (first | refine blk_drewN ?_ _ | refine blk_drew ?_ | refine blk_alloc ?_ _)); exact BK297.out) hb); have n1_ := Aside0.mk (below_step (by repeat (first | (with_reducible first | exact HB.out | apply below_alloc | apply pw_below_drewN | apply below_drew1 | refine below_set ?_ GE297.out) | exact HB.out)) hb); clear BK297; clear HB; have BK297 := n0_; have HB := n1_; clear n0_ n1_; (try clear hb); (try clear hb2); (try clear hk); (try clear hi)))
            go_meet
            case rel => exact ⟨_, (true), (by first | rfl | (simp; done) | (simp [*]; done)), H', ⟨by first | omega | exact Nat.le_refl _⟩, ⟨by (with_reducible repeat (first | refine blk_drewN ?_ _ | refine blk_drew ?_ | refine blk_alloc ?_ _)); exact BK297.out⟩, ⟨by repeat (first | (with_reducible first | exact HB.out | apply below_alloc | apply pw_below_drewN | apply below_drew1 | refine below_set ?_ GE297.out) | exact HB.out)⟩⟩
        · rw [if_neg c24] at H
          have c24b0 : (t299 == 150) = false := beq_eq_false_iff_ne.mpr c24
          have c24b1 : (t299 != 150) = true := bne_iff_ne.mpr c24
          have H' := Aside0.mk H
          clear H
          have hcz36_0 : w10.cell? ⟨gb297, 0, none⟩ = some (.bool a0_0) := (blk_cell BK297.out 0).trans rfl
          have hcz36_1 : w10.cell? ⟨gb297, 1, none⟩ = some (.slice A0_1 l0_1.length c0_1) := (blk_cell BK297.out 1).trans rfl
          have hcz36_2 : w10.cell? ⟨gb297, 2, none⟩ = some (.string a0_2) := (blk_cell BK297.out 2).trans rfl
          have hcz36_3 : w10.cell? ⟨gb297, 3, none⟩ = some (.string a0_3) := (blk_cell BK297.out 3).trans rfl
          have hcz36_4 : w10.cell? ⟨gb297, 4, none⟩ = some (.bool a0_4) := (blk_cell BK297.out 4).trans rfl
          have hfz36_0 := blk_frozen BK297.out 0
          have hfz36_1 := blk_frozen BK297.out 1
          have hfz36_2 := blk_frozen BK297.out 2
          have hfz36_3 := blk_frozen BK297.out 3
          have hfz36_4 := blk_frozen BK297.out 4
          go_wp2_with (first | ((with_reducible refine gate_callee (f := 20) rfl ?_); refine goesL_ (some 28) rfl rfl Tryz.func20 (by kernel_rfl) rfl #[.agg #[.bool a0_0, .slice A0_1 l0_1.length c0_1, .string a0_2, .string a0_3, .bool a0_4]] rfl (by (try simp only [List.map_toArray, List.map_cons, List.map_nil]); first | done | rfl | (simp only [List.length_drop, List.length_take]; rfl)) ?_; (with_reducible refine (path_Right.calls k a0_0 _ _ l0_1 a0_2 a0_3 a0_4 false _ ?side1 ?side2 ?side3 A11.out).mono ?_); (case side1 => repeat (first | exact (Kd.C_below HR0_1.out HB.out) | (with_reducible refine Kd.C_alloc ?_ _) | (with_reducible refine Kd.C_drewN ?_ _) | (with_reducible refine Kd.C_drew ?_))); (case side2 => exact HC0_1.out); (case side3 => exact GlobalsOK.below HG.out (by repeat (first | (with_reducible first | exact HB.out | apply below_alloc | apply pw_below_drewN | apply below_drew1 | refine below_set ?_ GE297.out) | exact HB.out))); rintro e w37 ⟨rfl, hb⟩; refine ⟨_, rfl, ?_⟩; have n0_ := Aside0.mk (blk_below (g := gb297) (o := .cells #[.bool a0_0, .slice A0_1 l0_1.length c0_1, .string a0_2, .string a0_3, .bool a0_4] 32 (0, 0)) (by (with_reducible repeat (first | refine blk_drewN ?_ _ | refine blk_drew ?_ | refine blk_alloc ?_ _)); exact BK297.out) hb); have n1_ := Aside0.mk (below_step (by repeat (first | (with_reducible first | exact HB.out | apply below_alloc | apply pw_below_drewN | apply below_drew1 | refine below_set ?_ GE297.out) | exact HB.out)) hb); clear BK297; clear HB; have BK297 := n0_; have HB := n1_; clear n0_ n1_; (try clear hb); (try clear hb2); (try clear hk); (try clear hi)))
          go_meet
          case rel => exact ⟨_, (true), (by first | rfl | (simp; done) | (simp [*]; done)), H', ⟨by first | omega | exact Nat.le_refl _⟩, ⟨by (with_reducible repeat (first | refine blk_drewN ?_ _ | refine blk_drew ?_ | refine blk_alloc ?_ _)); exact BK297.out⟩, ⟨by repeat (first | (with_reducible first | exact HB.out | apply below_alloc | apply pw_below_drewN | apply below_drew1 | refine below_set ?_ GE297.out) | exact HB.out)⟩⟩
  case rest =>
    clear HC5
    try clear c1
    try clear c2
    try clear p2
    try clear c5
    try clear c12
    try clear c12b0
    try clear c12b1
    try clear c12b2
    try clear c15
    try clear c15b0
    try clear c15b1
    try clear c16
    try clear c16b0
    try clear c16b1
    try clear c19
    try clear c19b0
    try clear c19b1
    try clear c20
    try clear c21
    try clear c22
    try clear c24
    try clear c24b0
    try clear c24b1
    try clear c25
    try clear c25b0
    try clear c25b1
    try clear c26
    try clear c26b0
    try clear c26b1
    try clear c29
    try clear c29b0
    try clear c29b1
    try clear hcz13_0
    try clear hcz13_1
    try clear hcz13_2
    try clear hcz13_3
    try clear hcz13_4
    try clear hcz17_0
    try clear hcz17_1
    try clear hcz17_2
    try clear hcz17_3
    try clear hcz17_4
    try clear hcz20_0
    try clear hcz20_1
    try clear hcz20_2
    try clear hcz20_3
    try clear hcz20_4
    try clear hcz22_0
    try clear hcz22_1
    try clear hcz22_2
    try clear hcz22_3
    try clear hcz22_4
    try clear hcz27_0
    try clear hcz27_1
    try clear hcz27_2
    try clear hcz27_3
    try clear hcz27_4
    try clear hcz30_0
    try clear hcz30_1
    try clear hcz30_2
    try clear hcz30_3
    try clear hcz30_4
    try clear hcz32_0
    try clear hcz32_1
    try clear hcz32_2
    try clear hcz32_3
    try clear hcz32_4
    try clear hcz34_0
    try clear hcz34_1
    try clear hcz34_2
    try clear hcz34_3
    try clear hcz34_4
    try clear hcz36_0
    try clear hcz36_1
    try clear hcz36_2
    try clear hcz36_3
    try clear hcz36_4
    try clear hcz7_0
    try clear hcz7_1
    try clear hcz7_2
    try clear hcz7_3
    try clear hcz7_4
    try clear hcz9_0
    try clear hcz9_1
    try clear hcz9_2
    try clear hcz9_3
    try clear hcz9_4
    try clear hfz13_0
    try clear hfz13_1
    try clear hfz13_2
    try clear hfz13_3
    try clear hfz13_4
    try clear hfz17_0
    try clear hfz17_1
    try clear hfz17_2
    try clear hfz17_3
    try clear hfz17_4
    try clear hfz20_0
    try clear hfz20_1
    try clear hfz20_2
    try clear hfz20_3
    try clear hfz20_4
    try clear hfz22_0
    try clear hfz22_1
    try clear hfz22_2
    try clear hfz22_3
    try clear hfz22_4
    try clear hfz27_0
    try clear hfz27_1
    try clear hfz27_2
    try clear hfz27_3
    try clear hfz27_4
    try clear hfz30_0
    try clear hfz30_1
    try clear hfz30_2
    try clear hfz30_3
    try clear hfz30_4
    try clear hfz32_0
    try clear hfz32_1
    try clear hfz32_2
    try clear hfz32_3
    try clear hfz32_4
    try clear hfz34_0
    try clear hfz34_1
    try clear hfz34_2
    try clear hfz34_3
    try clear hfz34_4
    try clear hfz36_0
    try clear hfz36_1
    try clear hfz36_2
    try clear hfz36_3
    try clear hfz36_4
    try clear hfz7_0
    try clear hfz7_1
    try clear hfz7_2
    try clear hfz7_3
    try clear hfz7_4
    try clear hfz9_0
    try clear hfz9_1
    try clear hfz9_2
    try clear hfz9_3
    try clear hfz9_4
    obtain ⟨kq, x53_4, rfl, HA, HJ4, BK297, HB⟩ := hcut
    cases kq with
    | zero => exact absurd HA.out (by simp [frankinglaw15_PathBack.j0])
    | succ kj4 =>
      have H := HA.out
      clear HA
      simp only [frankinglaw15_PathBack.j0] at H
      by_cases c38 : x53_4 = true
      · subst c38
        have H1 : (none) = some r := by rw [if_pos rfl] at H; exact H
        clear H
        have H := H1
        clear H1
        exact absurd H (by simp)
      · replace c38 := Bool.eq_false_iff.mpr c38
        subst c38
        have H1 : (if t299 = 0 then (if t298.size + a1.size ≤ 9223372036854775807 then ((path_Parse.f kj4 (t298 ++ a1)).bind fun bt303 => (if bt303.2.2.2.2.2.2 = 0 then (if bt303.2.2.2.2.2.1 = (t298.size : Int) then ((frankinglaw15_Same.f kj4 a0_0 l0_1 a0_2 a0_3 a0_4 bt303.1 bt303.2.1 bt303.2.2.1 bt303.2.2.2.1 bt303.2.2.2.2.1).bind fun t313 => (if t313 = true then (if ((t301 == 0) != (a0_3.toList != ([] : List UInt8))) = true then (none) else (frankinglaw15_PathBack.j1 kj4 t300 t301 a0_0 l0_1 a0_2 a0_3 a0_4)) else (none))) else (none)) else (none))) else (none)) else (frankinglaw15_PathBack.j1 kj4 t300 t301 a0_0 l0_1 a0_2 a0_3 a0_4)) = some r := by rw [if_neg (show ¬ (false = true) by decide)] at H; exact H
        clear H
        have H := H1
        clear H1
        have HC39 := Aside0.mk H
        clear H
        go_upto_if 55 with (fail)
        go_cut [] (fun wc => ∃ (kq : Nat), Aside0 (frankinglaw15_PathBack.j1 kq t300 t301 a0_0 l0_1 a0_2 a0_3 a0_4 = some r) ∧ Aside0 (kq ≤ kj4) ∧ Aside0 (wc.heap[gb297]? = some (.cells #[.bool a0_0, (.slice A0_1 l0_1.length c0_1), .string a0_2, .string a0_3, .bool a0_4] 32 (0, 0))) ∧ Aside0 (Below w.heap.size w wc))
        case first =>
          have H := HC39.out
          clear HC39
          by_cases c40 : t299 = 0
          · rw [if_pos c40] at H
            have c40b0 : (t299 == 0) = true := beq_iff_eq.mpr c40
            have c40b1 : (t299 != 0) = false := bne_eq_false_iff_eq.mpr c40
            clear c40
            (first | rw [c40b0] | (simp only [i64_w, i32_w]; rw [c40b0]) | skip)
            by_cases c41 : t298.size + a1.size ≤ 9223372036854775807
            · rw [if_pos c41] at H
              have c41b0 := eq_true c41
              have c41b1 : decide (t298.size + a1.size ≤ 9223372036854775807) = true := decide_eq_true c41
              try have c41b2 : (9223372036854775807 < t298.size + a1.size) = False := eq_false (Nat.not_lt.2 c41)
              replace H := Option.bind_eq_some_iff.mp H
              obtain ⟨⟨t303, t304, t307, t308, t309, t310, t311⟩, A420, H⟩ := H
              replace H : (if t311 = 0 then (if t310 = (t298.size : Int) then ((frankinglaw15_Same.f kj4 a0_0 l0_1 a0_2 a0_3 a0_4 t303 t304 t307 t308 t309).bind fun t313 => (if t313 = true then (if ((t301 == 0) != (a0_3.toList != ([] : List UInt8))) = true then (none) else (frankinglaw15_PathBack.j1 kj4 t300 t301 a0_0 l0_1 a0_2 a0_3 a0_4)) else (none))) else (none)) else (none)) = some r := H
              have A42 := Aside0.mk A420
              clear A420
              by_cases c43 : t311 = 0
              · rw [if_pos c43] at H
                have c43b0 : (t311 == 0) = true := beq_iff_eq.mpr c43
                have c43b1 : (t311 != 0) = false := bne_eq_false_iff_eq.mpr c43
                clear c43
                by_cases c44 : t310 = (t298.size : Int)
                · rw [if_pos c44] at H
                  have c44b0 : (t310 == (t298.size : Int)) = true := beq_iff_eq.mpr c44
                  have c44b1 : (t310 != (t298.size : Int)) = false := bne_eq_false_iff_eq.mpr c44
                  clear c44
                  replace H := Option.bind_eq_some_iff.mp H
                  obtain ⟨t313, A450, H⟩ := H
                  replace H : (if t313 = true then (if ((t301 == 0) != (a0_3.toList != ([] : List UInt8))) = true then (none) else (frankinglaw15_PathBack.j1 kj4 t300 t301 a0_0 l0_1 a0_2 a0_3 a0_4)) else (none)) = some r := H
                  have A45 := Aside0.mk A450
                  clear A450
                  by_cases c46 : t313 = true
                  · subst c46
                    have H1 : (if ((t301 == 0) != (a0_3.toList != ([] : List UInt8))) = true then (none) else (frankinglaw15_PathBack.j1 kj4 t300 t301 a0_0 l0_1 a0_2 a0_3 a0_4)) = some r := by rw [if_pos rfl] at H; exact H
                    clear H
                    have H := H1
                    clear H1
                    by_cases c47 : ((t301 == 0) != (a0_3.toList != ([] : List UInt8))) = true
                    · rw [if_pos c47] at H
                      exact absurd H (by simp)
                    · rw [if_neg c47] at H
                      have c47b0 : ((t301 == 0) != (a0_3.toList != ([] : List UInt8))) = false := by simpa using c47
                      (try (have c47b1 : decide ((t301 == 0) = (a0_3.toList != ([] : List UInt8))) = true := by simpa using c47))
                      (try (have c47b2 : ((t301 == 0) == (a0_3.toList != ([] : List UInt8))) = true := by simpa using c47))
                      clear c47
                      have H' := Aside0.mk H
                      clear H
                      have hxy : ((t301 == 0) = true ∧ (t301 != 0) = false ∧ (a0_3.toList == ([] : List UInt8)) = false ∧ (a0_3.toList != ([] : List UInt8)) = true) ∨ ((t301 == 0) = false ∧ (t301 != 0) = true ∧ (a0_3.toList == ([] : List UInt8)) = true ∧ (a0_3.toList != ([] : List UInt8)) = false) := by
                        rw [bne] at c47b0
                        simp only [bne]
                        revert c47b0
                        simp only [bne]
                        generalize (t301 == 0) = x
                        generalize (a0_3.toList == ([] : List UInt8)) = y
                        revert x y
                        decide
                      (try clear c47b0)
                      (try clear c47b1)
                      (try clear c47b2)
                      rcases hxy with ⟨x1, x2, y1, y2⟩ | ⟨x1, x2, y1, y2⟩
                      · go_wp2_with (first | ((with_reducible refine gate_callee (f := 17) rfl ?_); refine goesL_ (some 60) rfl rfl Tryz.func17 (by kernel_rfl) rfl #[.string (t298 ++ a1)] rfl (by (try simp only [List.map_toArray, List.map_cons, List.map_nil]); first | done | rfl | (simp only [List.length_drop, List.length_take]; rfl)) ?_; (with_reducible refine (path_Parse.calls kj4 (t298 ++ a1) t303 t304 t307 t308 t309 t310 t311 _ ?side1 A42.out).mono ?_); (case side1 => exact GlobalsOK.below HG.out (by repeat (first | (with_reducible first | exact HB.out | apply below_alloc | apply pw_below_drewN | apply below_drew1 | refine below_set ?_ GE297.out) | exact HB.out))); rintro e w48 ⟨v305, rfl, ho0, hb⟩; refine ⟨_, rfl, ?_⟩; have n0_ := Aside0.mk (Kd.R_lower ho0 (below_size (by repeat (first | (with_reducible first | exact HB.out | apply below_alloc | apply pw_below_drewN | apply below_drew1 | refine below_set ?_ GE297.out) | exact HB.out)))); have n1_ := Aside0.mk (blk_below (g := gb297) (o := .cells #[.bool a0_0, .slice A0_1 l0_1.length c0_1, .string a0_2, .string a0_3, .bool a0_4] 32 (0, 0)) (by (with_reducible repeat (first | refine blk_drewN ?_ _ | refine blk_drew ?_ | refine blk_alloc ?_ _)); exact BK297.out) hb); have n2_ := Aside0.mk (below_step (by repeat (first | (with_reducible first | exact HB.out | apply below_alloc | apply pw_below_drewN | apply below_drew1 | refine below_set ?_ GE297.out) | exact HB.out)) hb); clear BK297; clear HB; have HO306 := n0_; have BK297 := n1_; have HB := n2_; clear n0_ n1_ n2_; (try clear hb); (try clear hb2); (try clear hk); (try clear hi); (try clear ho0)) | ((with_reducible refine gate_dst (N := 9) rfl ?_); (try (refine gate_guard (by rfl) ?_; dsimp only)); refine box_event ?hg (N := 9) ?hd (cs := #[.bool false, .slice none 0 0, .string (⟨#[]⟩ : ByteArray), .string (⟨#[]⟩ : ByteArray), .bool false]) (t := 32) ?hr ?_; (case hd => rfl); (case hg => rfl); (case hr => first | (go_simp; done) | (go_simp; rfl)); intro gb312 hg w49 hbox hb; have n0_ := Aside0.mk (Kd.R_below (by (with_reducible repeat (first | apply Kd.R_alloc | apply Kd.R_drewN | apply Kd.R_drew)); exact HO306.out) hb); have n1_ := Aside0.mk (blk_below (g := gb297) (o := .cells #[.bool a0_0, .slice A0_1 l0_1.length c0_1, .string a0_2, .string a0_3, .bool a0_4] 32 (0, 0)) (by (with_reducible repeat (first | refine blk_drewN ?_ _ | refine blk_drew ?_ | refine blk_alloc ?_ _)); exact BK297.out) hb); have n2_ := Aside0.mk (below_step (by repeat (first | (with_reducible first | exact HB.out | apply below_alloc | apply pw_below_drewN | apply below_drew1 | refine below_set ?_ GE297.out) | exact HB.out)) hb); have n3_ := Aside0.mk (hbox); have n4_ := Aside0.mk ((by rw [hg]; exact (below_size (by repeat (first | (with_reducible first | exact HB.out | apply below_alloc | apply pw_below_drewN | apply below_drew1 | refine below_set ?_ GE297.out) | exact HB.out))) : w.heap.size ≤ gb312)); have n5_ := Aside0.mk ((by rw [hg]; exact (below_size (by repeat (first | (with_reducible first | exact HB.out | apply below_alloc | apply pw_below_drewN | apply below_drew1 | refine below_set ?_ GE297.out) | exact HB.out))) : w.heap.size ≤ gb312)); have n6_ := Aside0.mk ((by rw [hg]; exact Nat.ne_of_lt (blk_lt (g := gb297) (o := .cells #[.bool a0_0, .slice A0_1 l0_1.length c0_1, .string a0_2, .string a0_3, .bool a0_4] 32 (0, 0)) (by (with_reducible repeat (first | refine blk_drewN ?_ _ | refine blk_drew ?_ | refine blk_alloc ?_ _)); exact BK297.out)) : gb297 ≠ gb312)); have n7_ := Aside0.mk ((by rw [hg]; exact Nat.ne_of_gt (blk_lt (g := gb297) (o := .cells #[.bool a0_0, .slice A0_1 l0_1.length c0_1, .string a0_2, .string a0_3, .bool a0_4] 32 (0, 0)) (by (with_reducible repeat (first | refine blk_drewN ?_ _ | refine blk_drew ?_ | refine blk_alloc ?_ _)); exact BK297.out)) : gb312 ≠ gb297)); clear HO306; clear BK297; clear HB; have HO306 := n0_; have BK297 := n1_; have HB := n2_; have BK312 := n3_; have GW312 := n4_; have GE312 := n5_; have NB297_312 := n6_; have NB312_297 := n7_; clear n0_ n1_ n2_ n3_ n4_ n5_ n6_ n7_; clear hb hbox hg; have hnb50 := NB312_297.out; have hnc50 := NB297_312.out; have hcz51_0 : w49.cell? ⟨gb312, 0, none⟩ = some (.bool false) := (blk_cell BK312.out 0).trans rfl; have hcz51_1 : w49.cell? ⟨gb312, 1, none⟩ = some (.slice none 0 0) := (blk_cell BK312.out 1).trans rfl; have hcz51_2 : w49.cell? ⟨gb312, 2, none⟩ = some (.string (⟨#[]⟩ : ByteArray)) := (blk_cell BK312.out 2).trans rfl; have hcz51_3 : w49.cell? ⟨gb312, 3, none⟩ = some (.string (⟨#[]⟩ : ByteArray)) := (blk_cell BK312.out 3).trans rfl; have hcz51_4 : w49.cell? ⟨gb312, 4, none⟩ = some (.bool false) := (blk_cell BK312.out 4).trans rfl; have hfz51_0 := blk_frozen BK312.out 0; have hfz51_1 := blk_frozen BK312.out 1; have hfz51_2 := blk_frozen BK312.out 2; have hfz51_3 := blk_frozen BK312.out 3; have hfz51_4 := blk_frozen BK312.out 4; obtain ⟨Ao52, co52, eo52⟩ := Kd.R_slice HO306.out; subst eo52; have hcz53_0 : w49.cell? ⟨gb297, 0, none⟩ = some (.bool a0_0) := (blk_cell BK297.out 0).trans rfl; have hcz53_1 : w49.cell? ⟨gb297, 1, none⟩ = some (.slice A0_1 l0_1.length c0_1) := (blk_cell BK297.out 1).trans rfl; have hcz53_2 : w49.cell? ⟨gb297, 2, none⟩ = some (.string a0_2) := (blk_cell BK297.out 2).trans rfl; have hcz53_3 : w49.cell? ⟨gb297, 3, none⟩ = some (.string a0_3) := (blk_cell BK297.out 3).trans rfl; have hcz53_4 : w49.cell? ⟨gb297, 4, none⟩ = some (.bool a0_4) := (blk_cell BK297.out 4).trans rfl; have hfz53_0 := blk_frozen BK297.out 0; have hfz53_1 := blk_frozen BK297.out 1; have hfz53_2 := blk_frozen BK297.out 2; have hfz53_3 := blk_frozen BK297.out 3; have hfz53_4 := blk_frozen BK297.out 4) | (go_at_call 18; (with_reducible refine (frankinglaw15_Same.calls kj4 a0_0 _ _ l0_1 a0_2 a0_3 a0_4 t303 _ _ t304 t307 t308 t309 true _ ?side1 ?side2 ?side3 ?side4 A45.out).mono ?_); (case side1 => exact Kd.C_below HR0_1.out (by repeat (first | (with_reducible first | exact HB.out | apply below_alloc | apply pw_below_drewN | apply below_drew1 | refine below_set ?_ GE297.out | refine below_set ?_ GE312.out) | exact HB.out))); (case side2 => exact HC0_1.out); (case side3 => refine (Kd.R_reads' (e := 9) (base := w.heap.size) (ok := fun k_ => True) (n := t304.length) (c := co52) ?_).2.2; exact (by (with_reducible repeat (first | apply Kd.R_alloc | apply Kd.R_drewN | apply Kd.R_drew)); exact (Kd.R_mono (Kd.R_far (p := ⟨gb312, 4, none⟩) (Kd.R_far (p := ⟨gb312, 3, none⟩) (Kd.R_far (p := ⟨gb312, 2, none⟩) (Kd.R_far (p := ⟨gb312, 1, none⟩) (Kd.R_far (p := ⟨gb312, 0, none⟩) (Kd.R_types HO306.out BK312.out (by decide)) (fun _ hk => hk.2) (.bool t303)) (fun _ hk => hk.2) (.slice Ao52 t304.length co52)) (fun _ hk => hk.2) (.string t307)) (fun _ hk => hk.2) (.string t308)) (fun _ hk => hk.2) (.bool t309)) (fun _ h_ => h_.1)))); (case side4 => exact (Kd.R_reads' HO306.out).2.1); rintro e w54 ⟨rfl, hb⟩; have n0_ := Aside0.mk (Kd.R_below (by (with_reducible repeat (first | apply Kd.R_alloc | apply Kd.R_drewN | apply Kd.R_drew)); exact (Kd.R_mono (Kd.R_far (p := ⟨gb312, 4, none⟩) (Kd.R_far (p := ⟨gb312, 3, none⟩) (Kd.R_far (p := ⟨gb312, 2, none⟩) (Kd.R_far (p := ⟨gb312, 1, none⟩) (Kd.R_far (p := ⟨gb312, 0, none⟩) (Kd.R_types HO306.out BK312.out (by decide)) (fun _ hk => hk.2) (.bool t303)) (fun _ hk => hk.2) (.slice Ao52 t304.length co52)) (fun _ hk => hk.2) (.string t307)) (fun _ hk => hk.2) (.string t308)) (fun _ hk => hk.2) (.bool t309)) (fun _ h_ => h_.1))) hb); have n1_ := Aside0.mk (blk_below (g := gb297) (o := .cells #[.bool a0_0, .slice A0_1 l0_1.length c0_1, .string a0_2, .string a0_3, .bool a0_4] 32 (0, 0)) (by (with_reducible repeat (first | refine blk_drewN ?_ _ | refine blk_drew ?_ | refine blk_alloc ?_ _)); refine blk_far ?_ NB297_312.out _; (with_reducible repeat (first | refine blk_drewN ?_ _ | refine blk_drew ?_ | refine blk_alloc ?_ _)); refine blk_far ?_ NB297_312.out _; (with_reducible repeat (first | refine blk_drewN ?_ _ | refine blk_drew ?_ | refine blk_alloc ?_ _)); refine blk_far ?_ NB297_312.out _; (with_reducible repeat (first | refine blk_drewN ?_ _ | refine blk_drew ?_ | refine blk_alloc ?_ _)); refine blk_far ?_ NB297_312.out _; (with_reducible repeat (first | refine blk_drewN ?_ _ | refine blk_drew ?_ | refine blk_alloc ?_ _)); refine blk_far ?_ NB297_312.out _; (with_reducible repeat (first | refine blk_drewN ?_ _ | refine blk_drew ?_ | refine blk_alloc ?_ _)); exact BK297.out) hb); have n2_ := Aside0.mk (blk_below (g := gb312) (o := .cells #[.bool t303, .slice Ao52 t304.length co52, .string t307, .string t308, .bool t309] 32 (0, 0)) (by (with_reducible repeat (first | refine blk_drewN ?_ _ | refine blk_drew ?_ | refine blk_alloc ?_ _)); refine blk_put (cs := #[.bool t303, .slice Ao52 t304.length co52, .string t307, .string t308, .bool false]) ?_ 4 _ rfl; (with_reducible repeat (first | refine blk_drewN ?_ _ | refine blk_drew ?_ | refine blk_alloc ?_ _)); refine blk_put (cs := #[.bool t303, .slice Ao52 t304.length co52, .string t307, .string (⟨#[]⟩ : ByteArray), .bool false]) ?_ 3 _ rfl; (with_reducible repeat (first | refine blk_drewN ?_ _ | refine blk_drew ?_ | refine blk_alloc ?_ _)); refine blk_put (cs := #[.bool t303, .slice Ao52 t304.length co52, .string (⟨#[]⟩ : ByteArray), .string (⟨#[]⟩ : ByteArray), .bool false]) ?_ 2 _ rfl; (with_reducible repeat (first | refine blk_drewN ?_ _ | refine blk_drew ?_ | refine blk_alloc ?_ _)); refine blk_put (cs := #[.bool t303, .slice none 0 0, .string (⟨#[]⟩ : ByteArray), .string (⟨#[]⟩ : ByteArray), .bool false]) ?_ 1 _ rfl; (with_reducible repeat (first | refine blk_drewN ?_ _ | refine blk_drew ?_ | refine blk_alloc ?_ _)); refine blk_put (cs := #[.bool false, .slice none 0 0, .string (⟨#[]⟩ : ByteArray), .string (⟨#[]⟩ : ByteArray), .bool false]) ?_ 0 _ rfl; (with_reducible repeat (first | refine blk_drewN ?_ _ | refine blk_drew ?_ | refine blk_alloc ?_ _)); exact BK312.out) hb); have n3_ := Aside0.mk (below_step (by repeat (first | (with_reducible first | exact HB.out | apply below_alloc | apply pw_below_drewN | apply below_drew1 | refine below_set ?_ GE297.out | refine below_set ?_ GE312.out) | exact HB.out)) hb); clear HO306; clear BK297; clear BK312; clear HB; have HO306 := n0_; have BK297 := n1_; have BK312 := n2_; have HB := n3_; clear n0_ n1_ n2_ n3_; (try clear hb); (try clear hb2); (try clear hk); (try clear hi); have hcz55_0 : w54.cell? ⟨gb297, 0, none⟩ = some (.bool a0_0) := (blk_cell BK297.out 0).trans rfl; have hcz55_1 : w54.cell? ⟨gb297, 1, none⟩ = some (.slice A0_1 l0_1.length c0_1) := (blk_cell BK297.out 1).trans rfl; have hcz55_2 : w54.cell? ⟨gb297, 2, none⟩ = some (.string a0_2) := (blk_cell BK297.out 2).trans rfl; have hcz55_3 : w54.cell? ⟨gb297, 3, none⟩ = some (.string a0_3) := (blk_cell BK297.out 3).trans rfl; have hcz55_4 : w54.cell? ⟨gb297, 4, none⟩ = some (.bool a0_4) := (blk_cell BK297.out 4).trans rfl; have hfz55_0 := blk_frozen BK297.out 0; have hfz55_1 := blk_frozen BK297.out 1; have hfz55_2 := blk_frozen BK297.out 2; have hfz55_3 := blk_frozen BK297.out 3; have hfz55_4 := blk_frozen BK297.out 4))
                        go_meet
                        case rel => exact ⟨_, H', ⟨by have := HJ4.out; first | omega | exact Nat.le_refl _⟩, ⟨by (with_reducible repeat (first | refine blk_drewN ?_ _ | refine blk_drew ?_ | refine blk_alloc ?_ _)); exact BK297.out⟩, ⟨by repeat (first | (with_reducible first | exact HB.out | apply below_alloc | apply pw_below_drewN | apply below_drew1 | refine below_set ?_ GE297.out | refine below_set ?_ GE312.out) | exact HB.out)⟩⟩
                      · go_wp2_with (first | ((with_reducible refine gate_callee (f := 17) rfl ?_); refine goesL_ (some 60) rfl rfl Tryz.func17 (by kernel_rfl) rfl #[.string (t298 ++ a1)] rfl (by (try simp only [List.map_toArray, List.map_cons, List.map_nil]); first | done | rfl | (simp only [List.length_drop, List.length_take]; rfl)) ?_; (with_reducible refine (path_Parse.calls kj4 (t298 ++ a1) t303 t304 t307 t308 t309 t310 t311 _ ?side1 A42.out).mono ?_); (case side1 => exact GlobalsOK.below HG.out (by repeat (first | (with_reducible first | exact HB.out | apply below_alloc | apply pw_below_drewN | apply below_drew1 | refine below_set ?_ GE297.out) | exact HB.out))); rintro e w48 ⟨v305, rfl, ho0, hb⟩; refine ⟨_, rfl, ?_⟩; have n0_ := Aside0.mk (Kd.R_lower ho0 (below_size (by repeat (first | (with_reducible first | exact HB.out | apply below_alloc | apply pw_below_drewN | apply below_drew1 | refine below_set ?_ GE297.out) | exact HB.out)))); have n1_ := Aside0.mk (blk_below (g := gb297) (o := .cells #[.bool a0_0, .slice A0_1 l0_1.length c0_1, .string a0_2, .string a0_3, .bool a0_4] 32 (0, 0)) (by (with_reducible repeat (first | refine blk_drewN ?_ _ | refine blk_drew ?_ | refine blk_alloc ?_ _)); exact BK297.out) hb); have n2_ := Aside0.mk (below_step (by repeat (first | (with_reducible first | exact HB.out | apply below_alloc | apply pw_below_drewN | apply below_drew1 | refine below_set ?_ GE297.out) | exact HB.out)) hb); clear BK297; clear HB; have HO306 := n0_; have BK297 := n1_; have HB := n2_; clear n0_ n1_ n2_; (try clear hb); (try clear hb2); (try clear hk); (try clear hi); (try clear ho0)) | ((with_reducible refine gate_dst (N := 9) rfl ?_); (try (refine gate_guard (by rfl) ?_; dsimp only)); refine box_event ?hg (N := 9) ?hd (cs := #[.bool false, .slice none 0 0, .string (⟨#[]⟩ : ByteArray), .string (⟨#[]⟩ : ByteArray), .bool false]) (t := 32) ?hr ?_; (case hd => rfl); (case hg => rfl); (case hr => first | (go_simp; done) | (go_simp; rfl)); intro gb312 hg w49 hbox hb; have n0_ := Aside0.mk (Kd.R_below (by (with_reducible repeat (first | apply Kd.R_alloc | apply Kd.R_drewN | apply Kd.R_drew)); exact HO306.out) hb); have n1_ := Aside0.mk (blk_below (g := gb297) (o := .cells #[.bool a0_0, .slice A0_1 l0_1.length c0_1, .string a0_2, .string a0_3, .bool a0_4] 32 (0, 0)) (by (with_reducible repeat (first | refine blk_drewN ?_ _ | refine blk_drew ?_ | refine blk_alloc ?_ _)); exact BK297.out) hb); have n2_ := Aside0.mk (below_step (by repeat (first | (with_reducible first | exact HB.out | apply below_alloc | apply pw_below_drewN | apply below_drew1 | refine below_set ?_ GE297.out) | exact HB.out)) hb); have n3_ := Aside0.mk (hbox); have n4_ := Aside0.mk ((by rw [hg]; exact (below_size (by repeat (first | (with_reducible first | exact HB.out | apply below_alloc | apply pw_below_drewN | apply below_drew1 | refine below_set ?_ GE297.out) | exact HB.out))) : w.heap.size ≤ gb312)); have n5_ := Aside0.mk ((by rw [hg]; exact (below_size (by repeat (first | (with_reducible first | exact HB.out | apply below_alloc | apply pw_below_drewN | apply below_drew1 | refine below_set ?_ GE297.out) | exact HB.out))) : w.heap.size ≤ gb312)); have n6_ := Aside0.mk ((by rw [hg]; exact Nat.ne_of_lt (blk_lt (g := gb297) (o := .cells #[.bool a0_0, .slice A0_1 l0_1.length c0_1, .string a0_2, .string a0_3, .bool a0_4] 32 (0, 0)) (by (with_reducible repeat (first | refine blk_drewN ?_ _ | refine blk_drew ?_ | refine blk_alloc ?_ _)); exact BK297.out)) : gb297 ≠ gb312)); have n7_ := Aside0.mk ((by rw [hg]; exact Nat.ne_of_gt (blk_lt (g := gb297) (o := .cells #[.bool a0_0, .slice A0_1 l0_1.length c0_1, .string a0_2, .string a0_3, .bool a0_4] 32 (0, 0)) (by (with_reducible repeat (first | refine blk_drewN ?_ _ | refine blk_drew ?_ | refine blk_alloc ?_ _)); exact BK297.out)) : gb312 ≠ gb297)); clear HO306; clear BK297; clear HB; have HO306 := n0_; have BK297 := n1_; have HB := n2_; have BK312 := n3_; have GW312 := n4_; have GE312 := n5_; have NB297_312 := n6_; have NB312_297 := n7_; clear n0_ n1_ n2_ n3_ n4_ n5_ n6_ n7_; clear hb hbox hg; have hnb50 := NB312_297.out; have hnc50 := NB297_312.out; have hcz51_0 : w49.cell? ⟨gb312, 0, none⟩ = some (.bool false) := (blk_cell BK312.out 0).trans rfl; have hcz51_1 : w49.cell? ⟨gb312, 1, none⟩ = some (.slice none 0 0) := (blk_cell BK312.out 1).trans rfl; have hcz51_2 : w49.cell? ⟨gb312, 2, none⟩ = some (.string (⟨#[]⟩ : ByteArray)) := (blk_cell BK312.out 2).trans rfl; have hcz51_3 : w49.cell? ⟨gb312, 3, none⟩ = some (.string (⟨#[]⟩ : ByteArray)) := (blk_cell BK312.out 3).trans rfl; have hcz51_4 : w49.cell? ⟨gb312, 4, none⟩ = some (.bool false) := (blk_cell BK312.out 4).trans rfl; have hfz51_0 := blk_frozen BK312.out 0; have hfz51_1 := blk_frozen BK312.out 1; have hfz51_2 := blk_frozen BK312.out 2; have hfz51_3 := blk_frozen BK312.out 3; have hfz51_4 := blk_frozen BK312.out 4; obtain ⟨Ao52, co52, eo52⟩ := Kd.R_slice HO306.out; subst eo52; have hcz53_0 : w49.cell? ⟨gb297, 0, none⟩ = some (.bool a0_0) := (blk_cell BK297.out 0).trans rfl; have hcz53_1 : w49.cell? ⟨gb297, 1, none⟩ = some (.slice A0_1 l0_1.length c0_1) := (blk_cell BK297.out 1).trans rfl; have hcz53_2 : w49.cell? ⟨gb297, 2, none⟩ = some (.string a0_2) := (blk_cell BK297.out 2).trans rfl; have hcz53_3 : w49.cell? ⟨gb297, 3, none⟩ = some (.string a0_3) := (blk_cell BK297.out 3).trans rfl; have hcz53_4 : w49.cell? ⟨gb297, 4, none⟩ = some (.bool a0_4) := (blk_cell BK297.out 4).trans rfl; have hfz53_0 := blk_frozen BK297.out 0; have hfz53_1 := blk_frozen BK297.out 1; have hfz53_2 := blk_frozen BK297.out 2; have hfz53_3 := blk_frozen BK297.out 3; have hfz53_4 := blk_frozen BK297.out 4) | (go_at_call 18; (with_reducible refine (frankinglaw15_Same.calls kj4 a0_0 _ _ l0_1 a0_2 a0_3 a0_4 t303 _ _ t304 t307 t308 t309 true _ ?side1 ?side2 ?side3 ?side4 A45.out).mono ?_); (case side1 => exact Kd.C_below HR0_1.out (by repeat (first | (with_reducible first | exact HB.out | apply below_alloc | apply pw_below_drewN | apply below_drew1 | refine below_set ?_ GE297.out | refine below_set ?_ GE312.out) | exact HB.out))); (case side2 => exact HC0_1.out); (case side3 => refine (Kd.R_reads' (e := 9) (base := w.heap.size) (ok := fun k_ => True) (n := t304.length) (c := co52) ?_).2.2; exact (by (with_reducible repeat (first | apply Kd.R_alloc | apply Kd.R_drewN | apply Kd.R_drew)); exact (Kd.R_mono (Kd.R_far (p := ⟨gb312, 4, none⟩) (Kd.R_far (p := ⟨gb312, 3, none⟩) (Kd.R_far (p := ⟨gb312, 2, none⟩) (Kd.R_far (p := ⟨gb312, 1, none⟩) (Kd.R_far (p := ⟨gb312, 0, none⟩) (Kd.R_types HO306.out BK312.out (by decide)) (fun _ hk => hk.2) (.bool t303)) (fun _ hk => hk.2) (.slice Ao52 t304.length co52)) (fun _ hk => hk.2) (.string t307)) (fun _ hk => hk.2) (.string t308)) (fun _ hk => hk.2) (.bool t309)) (fun _ h_ => h_.1)))); (case side4 => exact (Kd.R_reads' HO306.out).2.1); rintro e w54 ⟨rfl, hb⟩; have n0_ := Aside0.mk (Kd.R_below (by (with_reducible repeat (first | apply Kd.R_alloc | apply Kd.R_drewN | apply Kd.R_drew)); exact (Kd.R_mono (Kd.R_far (p := ⟨gb312, 4, none⟩) (Kd.R_far (p := ⟨gb312, 3, none⟩) (Kd.R_far (p := ⟨gb312, 2, none⟩) (Kd.R_far (p := ⟨gb312, 1, none⟩) (Kd.R_far (p := ⟨gb312, 0, none⟩) (Kd.R_types HO306.out BK312.out (by decide)) (fun _ hk => hk.2) (.bool t303)) (fun _ hk => hk.2) (.slice Ao52 t304.length co52)) (fun _ hk => hk.2) (.string t307)) (fun _ hk => hk.2) (.string t308)) (fun _ hk => hk.2) (.bool t309)) (fun _ h_ => h_.1))) hb); have n1_ := Aside0.mk (blk_below (g := gb297) (o := .cells #[.bool a0_0, .slice A0_1 l0_1.length c0_1, .string a0_2, .string a0_3, .bool a0_4] 32 (0, 0)) (by (with_reducible repeat (first | refine blk_drewN ?_ _ | refine blk_drew ?_ | refine blk_alloc ?_ _)); refine blk_far ?_ NB297_312.out _; (with_reducible repeat (first | refine blk_drewN ?_ _ | refine blk_drew ?_ | refine blk_alloc ?_ _)); refine blk_far ?_ NB297_312.out _; (with_reducible repeat (first | refine blk_drewN ?_ _ | refine blk_drew ?_ | refine blk_alloc ?_ _)); refine blk_far ?_ NB297_312.out _; (with_reducible repeat (first | refine blk_drewN ?_ _ | refine blk_drew ?_ | refine blk_alloc ?_ _)); refine blk_far ?_ NB297_312.out _; (with_reducible repeat (first | refine blk_drewN ?_ _ | refine blk_drew ?_ | refine blk_alloc ?_ _)); refine blk_far ?_ NB297_312.out _; (with_reducible repeat (first | refine blk_drewN ?_ _ | refine blk_drew ?_ | refine blk_alloc ?_ _)); exact BK297.out) hb); have n2_ := Aside0.mk (blk_below (g := gb312) (o := .cells #[.bool t303, .slice Ao52 t304.length co52, .string t307, .string t308, .bool t309] 32 (0, 0)) (by (with_reducible repeat (first | refine blk_drewN ?_ _ | refine blk_drew ?_ | refine blk_alloc ?_ _)); refine blk_put (cs := #[.bool t303, .slice Ao52 t304.length co52, .string t307, .string t308, .bool false]) ?_ 4 _ rfl; (with_reducible repeat (first | refine blk_drewN ?_ _ | refine blk_drew ?_ | refine blk_alloc ?_ _)); refine blk_put (cs := #[.bool t303, .slice Ao52 t304.length co52, .string t307, .string (⟨#[]⟩ : ByteArray), .bool false]) ?_ 3 _ rfl; (with_reducible repeat (first | refine blk_drewN ?_ _ | refine blk_drew ?_ | refine blk_alloc ?_ _)); refine blk_put (cs := #[.bool t303, .slice Ao52 t304.length co52, .string (⟨#[]⟩ : ByteArray), .string (⟨#[]⟩ : ByteArray), .bool false]) ?_ 2 _ rfl; (with_reducible repeat (first | refine blk_drewN ?_ _ | refine blk_drew ?_ | refine blk_alloc ?_ _)); refine blk_put (cs := #[.bool t303, .slice none 0 0, .string (⟨#[]⟩ : ByteArray), .string (⟨#[]⟩ : ByteArray), .bool false]) ?_ 1 _ rfl; (with_reducible repeat (first | refine blk_drewN ?_ _ | refine blk_drew ?_ | refine blk_alloc ?_ _)); refine blk_put (cs := #[.bool false, .slice none 0 0, .string (⟨#[]⟩ : ByteArray), .string (⟨#[]⟩ : ByteArray), .bool false]) ?_ 0 _ rfl; (with_reducible repeat (first | refine blk_drewN ?_ _ | refine blk_drew ?_ | refine blk_alloc ?_ _)); exact BK312.out) hb); have n3_ := Aside0.mk (below_step (by repeat (first | (with_reducible first | exact HB.out | apply below_alloc | apply pw_below_drewN | apply below_drew1 | refine below_set ?_ GE297.out | refine below_set ?_ GE312.out) | exact HB.out)) hb); clear HO306; clear BK297; clear BK312; clear HB; have HO306 := n0_; have BK297 := n1_; have BK312 := n2_; have HB := n3_; clear n0_ n1_ n2_ n3_; (try clear hb); (try clear hb2); (try clear hk); (try clear hi); have hcz55_0 : w54.cell? ⟨gb297, 0, none⟩ = some (.bool a0_0) := (blk_cell BK297.out 0).trans rfl; have hcz55_1 : w54.cell? ⟨gb297, 1, none⟩ = some (.slice A0_1 l0_1.length c0_1) := (blk_cell BK297.out 1).trans rfl; have hcz55_2 : w54.cell? ⟨gb297, 2, none⟩ = some (.string a0_2) := (blk_cell BK297.out 2).trans rfl; have hcz55_3 : w54.cell? ⟨gb297, 3, none⟩ = some (.string a0_3) := (blk_cell BK297.out 3).trans rfl; have hcz55_4 : w54.cell? ⟨gb297, 4, none⟩ = some (.bool a0_4) := (blk_cell BK297.out 4).trans rfl; have hfz55_0 := blk_frozen BK297.out 0; have hfz55_1 := blk_frozen BK297.out 1; have hfz55_2 := blk_frozen BK297.out 2; have hfz55_3 := blk_frozen BK297.out 3; have hfz55_4 := blk_frozen BK297.out 4))
                        go_meet
                        case rel => exact ⟨_, H', ⟨by have := HJ4.out; first | omega | exact Nat.le_refl _⟩, ⟨by (with_reducible repeat (first | refine blk_drewN ?_ _ | refine blk_drew ?_ | refine blk_alloc ?_ _)); exact BK297.out⟩, ⟨by repeat (first | (with_reducible first | exact HB.out | apply below_alloc | apply pw_below_drewN | apply below_drew1 | refine below_set ?_ GE297.out | refine below_set ?_ GE312.out) | exact HB.out)⟩⟩
                  · replace c46 := Bool.eq_false_iff.mpr c46
                    subst c46
                    have H1 : (none) = some r := by rw [if_neg (show ¬ (false = true) by decide)] at H; exact H
                    clear H
                    have H := H1
                    clear H1
                    exact absurd H (by simp)
                · rw [if_neg c44] at H
                  exact absurd H (by simp)
              · rw [if_neg c43] at H
                exact absurd H (by simp)
            · rw [if_neg c41] at H
              exact absurd H (by simp)
          · rw [if_neg c40] at H
            have c40b0 : (t299 == 0) = false := beq_eq_false_iff_ne.mpr c40
            have c40b1 : (t299 != 0) = true := bne_iff_ne.mpr c40
            (first | rw [c40b0] | (simp only [i64_w, i32_w]; rw [c40b0]) | skip)
            have H' := Aside0.mk H
            clear H
            go_wp2
            go_meet
            case rel => exact ⟨_, H', ⟨by have := HJ4.out; first | omega | exact Nat.le_refl _⟩, ⟨by (with_reducible repeat (first | refine blk_drewN ?_ _ | refine blk_drew ?_ | refine blk_alloc ?_ _)); exact BK297.out⟩, ⟨by repeat (first | (with_reducible first | exact HB.out | apply below_alloc | apply pw_below_drewN | apply below_drew1 | refine below_set ?_ GE297.out) | exact HB.out)⟩⟩
        case rest =>
          clear HC39
          try clear c1
          try clear c2
          try clear p2
          try clear c3
          try clear c4
          try clear c5
          try clear c12
          try clear c12b0
          try clear c12b1
          try clear c12b2
          try clear c15
          try clear c15b0
          try clear c15b1
          try clear c16
          try clear c16b0
          try clear c16b1
          try clear c17
          try clear c19
          try clear c19b0
          try clear c19b1
          try clear c20
          try clear c21
          try clear c22
          try clear c24
          try clear c24b0
          try clear c24b1
          try clear c25
          try clear c25b0
          try clear c25b1
          try clear c26
          try clear c26b0
          try clear c26b1
          try clear c29
          try clear c29b0
          try clear c29b1
          try clear c38
          try clear c40
          try clear c40b0
          try clear c40b1
          try clear c41
          try clear c41b0
          try clear c41b1
          try clear c41b2
          try clear c43
          try clear c43b0
          try clear c43b1
          try clear c44
          try clear c44b0
          try clear c44b1
          try clear c46
          try clear c47
          try clear c47b0
          try clear c47b1
          try clear c47b2
          try clear c50
          try clear hcz13_0
          try clear hcz13_1
          try clear hcz13_2
          try clear hcz13_3
          try clear hcz13_4
          try clear hcz17_0
          try clear hcz17_1
          try clear hcz17_2
          try clear hcz17_3
          try clear hcz17_4
          try clear hcz20_0
          try clear hcz20_1
          try clear hcz20_2
          try clear hcz20_3
          try clear hcz20_4
          try clear hcz22_0
          try clear hcz22_1
          try clear hcz22_2
          try clear hcz22_3
          try clear hcz22_4
          try clear hcz27_0
          try clear hcz27_1
          try clear hcz27_2
          try clear hcz27_3
          try clear hcz27_4
          try clear hcz30_0
          try clear hcz30_1
          try clear hcz30_2
          try clear hcz30_3
          try clear hcz30_4
          try clear hcz32_0
          try clear hcz32_1
          try clear hcz32_2
          try clear hcz32_3
          try clear hcz32_4
          try clear hcz34_0
          try clear hcz34_1
          try clear hcz34_2
          try clear hcz34_3
          try clear hcz34_4
          try clear hcz36_0
          try clear hcz36_1
          try clear hcz36_2
          try clear hcz36_3
          try clear hcz36_4
          try clear hcz51_0
          try clear hcz51_1
          try clear hcz51_2
          try clear hcz51_3
          try clear hcz51_4
          try clear hcz53_0
          try clear hcz53_1
          try clear hcz53_2
          try clear hcz53_3
          try clear hcz53_4
          try clear hcz55_0
          try clear hcz55_1
          try clear hcz55_2
          try clear hcz55_3
          try clear hcz55_4
          try clear hcz7_0
          try clear hcz7_1
          try clear hcz7_2
          try clear hcz7_3
          try clear hcz7_4
          try clear hcz9_0
          try clear hcz9_1
          try clear hcz9_2
          try clear hcz9_3
          try clear hcz9_4
          try clear hfz13_0
          try clear hfz13_1
          try clear hfz13_2
          try clear hfz13_3
          try clear hfz13_4
          try clear hfz17_0
          try clear hfz17_1
          try clear hfz17_2
          try clear hfz17_3
          try clear hfz17_4
          try clear hfz20_0
          try clear hfz20_1
          try clear hfz20_2
          try clear hfz20_3
          try clear hfz20_4
          try clear hfz22_0
          try clear hfz22_1
          try clear hfz22_2
          try clear hfz22_3
          try clear hfz22_4
          try clear hfz27_0
          try clear hfz27_1
          try clear hfz27_2
          try clear hfz27_3
          try clear hfz27_4
          try clear hfz30_0
          try clear hfz30_1
          try clear hfz30_2
          try clear hfz30_3
          try clear hfz30_4
          try clear hfz32_0
          try clear hfz32_1
          try clear hfz32_2
          try clear hfz32_3
          try clear hfz32_4
          try clear hfz34_0
          try clear hfz34_1
          try clear hfz34_2
          try clear hfz34_3
          try clear hfz34_4
          try clear hfz36_0
          try clear hfz36_1
          try clear hfz36_2
          try clear hfz36_3
          try clear hfz36_4
          try clear hfz51_0
          try clear hfz51_1
          try clear hfz51_2
          try clear hfz51_3
          try clear hfz51_4
          try clear hfz53_0
          try clear hfz53_1
          try clear hfz53_2
          try clear hfz53_3
          try clear hfz53_4
          try clear hfz55_0
          try clear hfz55_1
          try clear hfz55_2
          try clear hfz55_3
          try clear hfz55_4
          try clear hfz7_0
          try clear hfz7_1
          try clear hfz7_2
          try clear hfz7_3
          try clear hfz7_4
          try clear hfz9_0
          try clear hfz9_1
          try clear hfz9_2
          try clear hfz9_3
          try clear hfz9_4
          try clear p2
          obtain ⟨kq, HA, HJ38, BK297, HB⟩ := hcut
          cases kq with
          | zero => exact absurd HA.out (by simp [frankinglaw15_PathBack.j1])
          | succ kj38 =>
            have H := HA.out
            clear HA
            simp only [frankinglaw15_PathBack.j1] at H
            by_cases c56 : t301 = 0
            · rw [if_pos c56] at H
              have c56b0 : (t301 == 0) = true := beq_iff_eq.mpr c56
              have c56b1 : (t301 != 0) = false := bne_eq_false_iff_eq.mpr c56
              clear c56
              replace H := Option.bind_eq_some_iff.mp H
              obtain ⟨⟨t314, t315, t316, t317⟩, A570, H⟩ := H
              replace H : (if t317 = 0 then (if (!(t314.toList == a0_2.toList) || (!(t315.toList == a0_3.toList) || (!(t316 == a0_4)))) = true then (none) else ((frankinglaw15_awake.f kj38).bind fun t319 => (some t319))) else (none)) = some r := H
              have A57 := Aside0.mk A570
              clear A570
              by_cases c58 : t317 = 0
              · rw [if_pos c58] at H
                have c58b0 : (t317 == 0) = true := beq_iff_eq.mpr c58
                have c58b1 : (t317 != 0) = false := bne_eq_false_iff_eq.mpr c58
                clear c58
                by_cases c59 : (!(t314.toList == a0_2.toList) || (!(t315.toList == a0_3.toList) || (!(t316 == a0_4)))) = true
                · rw [if_pos c59] at H
                  exact absurd H (by simp)
                · rw [if_neg c59] at H
                  have c59b0 : (!(t314.toList == a0_2.toList) || (!(t315.toList == a0_3.toList) || (!(t316 == a0_4)))) = false := by simpa using c59
                  clear c59
                  replace H := Option.bind_eq_some_iff.mp H
                  obtain ⟨t319, A600, H⟩ := H
                  replace H : (some t319) = some r := H
                  have A60 := Aside0.mk A600
                  clear A600
                  obtain rfl := Option.some.inj H
                  go_wp2_with (first | ((with_reducible refine gate_callee (f := 23) rfl ?_); refine goesL_ (some 91) rfl rfl Tryz.func23 (by kernel_rfl) rfl #[.string t300] rfl (by (try simp only [List.map_toArray, List.map_cons, List.map_nil]); first | done | rfl | (simp only [List.length_drop, List.length_take]; rfl)) ?_; (with_reducible refine (path_Mailbox.calls kj38 t300 t314 t315 t316 t317 _ ?side1 A57.out).mono ?_); (case side1 => exact GlobalsOK.below HG.out (by repeat (first | (with_reducible first | exact HB.out | apply below_alloc | apply pw_below_drewN | apply below_drew1 | refine below_set ?_ GE297.out) | exact HB.out))); rintro e w61 ⟨rfl, hb⟩; refine ⟨_, rfl, ?_⟩; have n0_ := Aside0.mk (blk_below (g := gb297) (o := .cells #[.bool a0_0, .slice A0_1 l0_1.length c0_1, .string a0_2, .string a0_3, .bool a0_4] 32 (0, 0)) (by (with_reducible repeat (first | refine blk_drewN ?_ _ | refine blk_drew ?_ | refine blk_alloc ?_ _)); exact BK297.out) hb); have n1_ := Aside0.mk (below_step (by repeat (first | (with_reducible first | exact HB.out | apply below_alloc | apply pw_below_drewN | apply below_drew1 | refine below_set ?_ GE297.out) | exact HB.out)) hb); clear BK297; clear HB; have BK297 := n0_; have HB := n1_; clear n0_ n1_; (try clear hb); (try clear hb2); (try clear hk); (try clear hi)) | ((with_reducible refine gate_dst (N := 12) rfl ?_); (try (refine gate_guard (by rfl) ?_; dsimp only)); refine box_event ?hg (N := 12) ?hd (cs := #[.string (⟨#[]⟩ : ByteArray), .string (⟨#[]⟩ : ByteArray), .bool false]) (t := 30) ?hr ?_; (case hd => rfl); (case hg => rfl); (case hr => first | (go_simp; done) | (go_simp; rfl)); intro gb318 hg w62 hbox hb; have n0_ := Aside0.mk (blk_below (g := gb297) (o := .cells #[.bool a0_0, .slice A0_1 l0_1.length c0_1, .string a0_2, .string a0_3, .bool a0_4] 32 (0, 0)) (by (with_reducible repeat (first | refine blk_drewN ?_ _ | refine blk_drew ?_ | refine blk_alloc ?_ _)); exact BK297.out) hb); have n1_ := Aside0.mk (below_step (by repeat (first | (with_reducible first | exact HB.out | apply below_alloc | apply pw_below_drewN | apply below_drew1 | refine below_set ?_ GE297.out) | exact HB.out)) hb); have n2_ := Aside0.mk (hbox); have n3_ := Aside0.mk ((by rw [hg]; exact (below_size (by repeat (first | (with_reducible first | exact HB.out | apply below_alloc | apply pw_below_drewN | apply below_drew1 | refine below_set ?_ GE297.out) | exact HB.out))) : w.heap.size ≤ gb318)); have n4_ := Aside0.mk ((by rw [hg]; exact (below_size (by repeat (first | (with_reducible first | exact HB.out | apply below_alloc | apply pw_below_drewN | apply below_drew1 | refine below_set ?_ GE297.out) | exact HB.out))) : w.heap.size ≤ gb318)); have n5_ := Aside0.mk ((by rw [hg]; exact Nat.ne_of_lt (blk_lt (g := gb297) (o := .cells #[.bool a0_0, .slice A0_1 l0_1.length c0_1, .string a0_2, .string a0_3, .bool a0_4] 32 (0, 0)) (by (with_reducible repeat (first | refine blk_drewN ?_ _ | refine blk_drew ?_ | refine blk_alloc ?_ _)); exact BK297.out)) : gb297 ≠ gb318)); have n6_ := Aside0.mk ((by rw [hg]; exact Nat.ne_of_gt (blk_lt (g := gb297) (o := .cells #[.bool a0_0, .slice A0_1 l0_1.length c0_1, .string a0_2, .string a0_3, .bool a0_4] 32 (0, 0)) (by (with_reducible repeat (first | refine blk_drewN ?_ _ | refine blk_drew ?_ | refine blk_alloc ?_ _)); exact BK297.out)) : gb318 ≠ gb297)); clear BK297; clear HB; have BK297 := n0_; have HB := n1_; have BK318 := n2_; have GW318 := n3_; have GE318 := n4_; have NB297_318 := n5_; have NB318_297 := n6_; clear n0_ n1_ n2_ n3_ n4_ n5_ n6_; clear hb hbox hg; have hnb63 := NB318_297.out; have hnc63 := NB297_318.out; have hcz64_0 : w62.cell? ⟨gb318, 0, none⟩ = some (.string (⟨#[]⟩ : ByteArray)) := (blk_cell BK318.out 0).trans rfl; have hcz64_1 : w62.cell? ⟨gb318, 1, none⟩ = some (.string (⟨#[]⟩ : ByteArray)) := (blk_cell BK318.out 1).trans rfl; have hcz64_2 : w62.cell? ⟨gb318, 2, none⟩ = some (.bool false) := (blk_cell BK318.out 2).trans rfl; have hfz64_0 := blk_frozen BK318.out 0; have hfz64_1 := blk_frozen BK318.out 1; have hfz64_2 := blk_frozen BK318.out 2; have hcz65_0 : w62.cell? ⟨gb297, 0, none⟩ = some (.bool a0_0) := (blk_cell BK297.out 0).trans rfl; have hcz65_1 : w62.cell? ⟨gb297, 1, none⟩ = some (.slice A0_1 l0_1.length c0_1) := (blk_cell BK297.out 1).trans rfl; have hcz65_2 : w62.cell? ⟨gb297, 2, none⟩ = some (.string a0_2) := (blk_cell BK297.out 2).trans rfl; have hcz65_3 : w62.cell? ⟨gb297, 3, none⟩ = some (.string a0_3) := (blk_cell BK297.out 3).trans rfl; have hcz65_4 : w62.cell? ⟨gb297, 4, none⟩ = some (.bool a0_4) := (blk_cell BK297.out 4).trans rfl; have hfz65_0 := blk_frozen BK297.out 0; have hfz65_1 := blk_frozen BK297.out 1; have hfz65_2 := blk_frozen BK297.out 2; have hfz65_3 := blk_frozen BK297.out 3; have hfz65_4 := blk_frozen BK297.out 4) | ((with_reducible refine gate_callee (f := 19) rfl ?_); refine goesL_ (some 102) rfl rfl Tryz.func19 (by kernel_rfl) rfl #[] rfl (by (try simp only [List.map_toArray, List.map_cons, List.map_nil]); first | done | rfl | (simp only [List.length_drop, List.length_take]; rfl)) ?_; (with_reducible refine (frankinglaw15_awake.calls kj38  t319 _ ?side1 A60.out).mono ?_); (case side1 => exact GlobalsOK.below HG.out (by repeat (first | (with_reducible first | exact HB.out | apply below_alloc | apply pw_below_drewN | apply below_drew1 | refine below_set ?_ GE297.out | refine below_set ?_ GE318.out) | exact HB.out))); rintro e w66 ⟨rfl, hb⟩; refine ⟨_, rfl, ?_⟩; have n0_ := Aside0.mk (blk_below (g := gb297) (o := .cells #[.bool a0_0, .slice A0_1 l0_1.length c0_1, .string a0_2, .string a0_3, .bool a0_4] 32 (0, 0)) (by (with_reducible repeat (first | refine blk_drewN ?_ _ | refine blk_drew ?_ | refine blk_alloc ?_ _)); refine blk_far ?_ NB297_318.out _; (with_reducible repeat (first | refine blk_drewN ?_ _ | refine blk_drew ?_ | refine blk_alloc ?_ _)); refine blk_far ?_ NB297_318.out _; (with_reducible repeat (first | refine blk_drewN ?_ _ | refine blk_drew ?_ | refine blk_alloc ?_ _)); refine blk_far ?_ NB297_318.out _; (with_reducible repeat (first | refine blk_drewN ?_ _ | refine blk_drew ?_ | refine blk_alloc ?_ _)); exact BK297.out) hb); have n1_ := Aside0.mk (blk_below (g := gb318) (o := .cells #[.string t314, .string t315, .bool t316] 30 (0, 0)) (by (with_reducible repeat (first | refine blk_drewN ?_ _ | refine blk_drew ?_ | refine blk_alloc ?_ _)); refine blk_put (cs := #[.string t314, .string t315, .bool false]) ?_ 2 _ rfl; (with_reducible repeat (first | refine blk_drewN ?_ _ | refine blk_drew ?_ | refine blk_alloc ?_ _)); refine blk_put (cs := #[.string t314, .string (⟨#[]⟩ : ByteArray), .bool false]) ?_ 1 _ rfl; (with_reducible repeat (first | refine blk_drewN ?_ _ | refine blk_drew ?_ | refine blk_alloc ?_ _)); refine blk_put (cs := #[.string (⟨#[]⟩ : ByteArray), .string (⟨#[]⟩ : ByteArray), .bool false]) ?_ 0 _ rfl; (with_reducible repeat (first | refine blk_drewN ?_ _ | refine blk_drew ?_ | refine blk_alloc ?_ _)); exact BK318.out) hb); have n2_ := Aside0.mk (below_step (by repeat (first | (with_reducible first | exact HB.out | apply below_alloc | apply pw_below_drewN | apply below_drew1 | refine below_set ?_ GE297.out | refine below_set ?_ GE318.out) | exact HB.out)) hb); clear BK297; clear BK318; clear HB; have BK297 := n0_; have BK318 := n1_; have HB := n2_; clear n0_ n1_ n2_; (try clear hb); (try clear hb2); (try clear hk); (try clear hi)))
                  go_ret
                  exact ⟨by first | rfl | (simp [errW_none, errW_some] <;> rfl) | (simp [*, errW_none, errW_some] <;> rfl), by repeat (first | (with_reducible first | exact HB.out | apply below_alloc | apply pw_below_drewN | apply below_drew1 | refine below_set ?_ GE297.out | refine below_set ?_ GE318.out) | exact HB.out)⟩
              · rw [if_neg c58] at H
                exact absurd H (by simp)
            · rw [if_neg c56] at H
              have c56b0 : (t301 == 0) = false := beq_eq_false_iff_ne.mpr c56
              have c56b1 : (t301 != 0) = true := bne_iff_ne.mpr c56
              replace H := Option.bind_eq_some_iff.mp H
              obtain ⟨t320, A670, H⟩ := H
              replace H : (some t320) = some r := H
              have A67 := Aside0.mk A670
              clear A670
              obtain rfl := Option.some.inj H
              go_wp2_with (first | ((with_reducible refine gate_callee (f := 19) rfl ?_); refine goesL_ (some 102) rfl rfl Tryz.func19 (by kernel_rfl) rfl #[] rfl (by (try simp only [List.map_toArray, List.map_cons, List.map_nil]); first | done | rfl | (simp only [List.length_drop, List.length_take]; rfl)) ?_; (with_reducible refine (frankinglaw15_awake.calls kj38  t320 _ ?side1 A67.out).mono ?_); (case side1 => exact GlobalsOK.below HG.out (by repeat (first | (with_reducible first | exact HB.out | apply below_alloc | apply pw_below_drewN | apply below_drew1 | refine below_set ?_ GE297.out) | exact HB.out))); rintro e w68 ⟨rfl, hb⟩; refine ⟨_, rfl, ?_⟩; have n0_ := Aside0.mk (blk_below (g := gb297) (o := .cells #[.bool a0_0, .slice A0_1 l0_1.length c0_1, .string a0_2, .string a0_3, .bool a0_4] 32 (0, 0)) (by (with_reducible repeat (first | refine blk_drewN ?_ _ | refine blk_drew ?_ | refine blk_alloc ?_ _)); exact BK297.out) hb); have n1_ := Aside0.mk (below_step (by repeat (first | (with_reducible first | exact HB.out | apply below_alloc | apply pw_below_drewN | apply below_drew1 | refine below_set ?_ GE297.out) | exact HB.out)) hb); clear BK297; clear HB; have BK297 := n0_; have HB := n1_; clear n0_ n1_; (try clear hb); (try clear hb2); (try clear hk); (try clear hi)))
              go_ret
              exact ⟨by first | rfl | (simp [errW_none, errW_some] <;> rfl) | (simp [*, errW_none, errW_some] <;> rfl), by repeat (first | (with_reducible first | exact HB.out | apply below_alloc | apply pw_below_drewN | apply below_drew1 | refine below_set ?_ GE297.out) | exact HB.out)⟩

end Go.Proofs.YtokpnfljjjjikaaGreatDoor.QPath
