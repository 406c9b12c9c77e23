-- WRITTEN BY A PROGRAM of this session (wip/myprint), out of the translation; Lean checks it.
import Derived.Test.YtokpnfljjjjikaaGreatDoorQCmdx0
import Derived.Test.YtokpnfljjjjikaaGreatDoorQCmdx2
import Derived.Test.YtokpnfljjjjikaaGreatDoorQCmdx11
namespace Go.Proofs.YtokpnfljjjjikaaGreatDoor.QCmd
open Go.RowKit Go.Proofs.YtokpnfljjjjikaaGreatDoorW.PrintWords Go.Proofs.YtokpnfljjjjikaaGreatDoorW.PrintLast Go.Proofs.YtokpnfljjjjikaaGreatDoorW.PrintMore
attribute [local go_sem] max2_int min2_int max_two min_two max_three min_three max_four min_four   -- for this text's walks alone
set_option linter.unusedVariables false
set_option linter.unusedSimpArgs false

attribute [local go_sem high] eqA58
mutual
def frankinglaw16_Same.j0 : Nat → Bool → Int → ByteArray → Bool → List ByteArray → ByteArray → ByteArray → Bool → List (S58) → Int → ByteArray → Bool → List ByteArray → ByteArray → ByteArray → Bool → List (S58) → Option (Bool)
  | 0, _, _, _, _, _, _, _, _, _, _, _, _, _, _, _, _, _ => none
  | k + 1, x34, x252000, x252001, x252002, x252003, x252004, x252005, x252006, x252007, x253000, x253001, x253002, x253003, x253004, x253005, x253006, x253007 => if x34 = true then (some false) else (frankinglaw16_Same.l0 k (x252007.length : Int) 0 x252000 x252001 x252002 x252003 x252004 x252005 x252006 x252007 x253000 x253001 x253002 x253003 x253004 x253005 x253006 x253007)
def frankinglaw16_Same.l0 : Nat → Int → Int → Int → ByteArray → Bool → List ByteArray → ByteArray → ByteArray → Bool → List (S58) → Int → ByteArray → Bool → List ByteArray → ByteArray → ByteArray → Bool → List (S58) → Option (Bool)
  | 0, _, _, _, _, _, _, _, _, _, _, _, _, _, _, _, _, _, _ => none
  | k + 1, x37, x38, x252000, x252001, x252002, x252003, x252004, x252005, x252006, x252007, x253000, x253001, x253002, x253003, x253004, x253005, x253006, x253007 => if x38 < x37 then (if 0 ≤ x38 then (if x38 < (x252007.length : Int) then (if x38 < (x253007.length : Int) then (if (!((((rd_T58 x252007 x38).f0).toList) == (((rd_T58 x253007 x38).f0).toList)) || (!((((rd_T58 x252007 x38).f1).toList) == (((rd_T58 x253007 x38).f1).toList)) || (!(((rd_T58 x252007 x38).f2) == ((rd_T58 x253007 x38).f2))))) = true then (some false) else (frankinglaw16_Same.l0 k x37 (wrap64 (x38 + 1)) x252000 x252001 x252002 x252003 x252004 x252005 x252006 x252007 x253000 x253001 x253002 x253003 x253004 x253005 x253006 x253007)) else (none)) else (none)) else (none)) else (some true)
end
def frankinglaw16_Same.f (k : Nat) (a0_0 : Int) (a0_1 : ByteArray) (a0_2 : Bool) (l0_3 : List ByteArray) (a0_4 : ByteArray) (a0_5 : ByteArray) (a0_6 : Bool) (l0_7 : List (S58)) (a1_0 : Int) (a1_1 : ByteArray) (a1_2 : Bool) (l1_3 : List ByteArray) (a1_4 : ByteArray) (a1_5 : ByteArray) (a1_6 : Bool) (l1_7 : List (S58)) : Option (Bool) := if a0_0 = a1_0 then (if a0_1.toList = a1_1.toList then ((frankinglaw15_Same.f k a0_2 l0_3 a0_4 a0_5 a0_6 a1_2 l1_3 a1_4 a1_5 a1_6).bind fun t253 => (if t253 = true then (frankinglaw16_Same.j0 k ((l0_7.length : Int) != (l1_7.length : Int)) a0_0 a0_1 a0_2 l0_3 a0_4 a0_5 a0_6 l0_7 a1_0 a1_1 a1_2 l1_3 a1_4 a1_5 a1_6 l1_7) else (frankinglaw16_Same.j0 k true a0_0 a0_1 a0_2 l0_3 a0_4 a0_5 a0_6 l0_7 a1_0 a1_1 a1_2 l1_3 a1_4 a1_5 a1_6 l1_7))) else (frankinglaw16_Same.j0 k true a0_0 a0_1 a0_2 l0_3 a0_4 a0_5 a0_6 l0_7 a1_0 a1_1 a1_2 l1_3 a1_4 a1_5 a1_6 l1_7)) else (frankinglaw16_Same.j0 k true a0_0 a0_1 a0_2 l0_3 a0_4 a0_5 a0_6 l0_7 a1_0 a1_1 a1_2 l1_3 a1_4 a1_5 a1_6 l1_7)
set_option maxHeartbeats 8000000 in
set_option maxRecDepth 100000 in
theorem frankinglaw16_Same.calls (k : Nat) (a0_0 : Int) (a0_1 : ByteArray) (a0_2 : Bool) (A0_3 : Option Addr) (c0_3 : Nat) (l0_3 : List ByteArray) (a0_4 : ByteArray) (a0_5 : ByteArray) (a0_6 : Bool) (A0_7 : Option Addr) (c0_7 : Nat) (l0_7 : List (S58)) (a1_0 : Int) (a1_1 : ByteArray) (a1_2 : Bool) (A1_3 : Option Addr) (c1_3 : Nat) (l1_3 : List ByteArray) (a1_4 : ByteArray) (a1_5 : ByteArray) (a1_6 : Bool) (A1_7 : Option Addr) (c1_7 : Nat) (l1_7 : List (S58)) (r : Bool) (w : World) (hr0_3 : Kd.C Kd.string w A0_3 l0_3.length l0_3) (hc0_3 : l0_3.length ≤ c0_3) (hr0_7 : Kd.C k58 w A0_7 l0_7.length l0_7) (hc0_7 : l0_7.length ≤ c0_7) (hr1_3 : Kd.C Kd.string w A1_3 l1_3.length l1_3) (hc1_3 : l1_3.length ≤ c1_3) (hr1_7 : Kd.C k58 w A1_7 l1_7.length l1_7) (hc1_7 : l1_7.length ≤ c1_7) (h : frankinglaw16_Same.f k a0_0 a0_1 a0_2 l0_3 a0_4 a0_5 a0_6 l0_7 a1_0 a1_1 a1_2 l1_3 a1_4 a1_5 a1_6 l1_7 = some r) :
    Calls Tryz.prog 36 #[.agg #[.int .u8 a0_0, .string a0_1, .bool a0_2, .slice A0_3 l0_3.length c0_3, .string a0_4, .string a0_5, .bool a0_6, .slice A0_7 l0_7.length c0_7], .agg #[.int .u8 a1_0, .string a1_1, .bool a1_2, .slice A1_3 l1_3.length c1_3, .string a1_4, .string a1_5, .bool a1_6, .slice A1_7 l1_7.length c1_7]] w fun e w' => e = .returned (.bool r) ∧ Below w.heap.size w w' := by
  have hu35 := Tryz.underlying35
  have hu32 := Tryz.underlying32
  have hu58 := Tryz.underlying58
  have HR0_3 := Aside0.mk hr0_3
  have HC0_3 := Aside0.mk hc0_3
  clear hr0_3 hc0_3
  have HR0_7 := Aside0.mk hr0_7
  have HC0_7 := Aside0.mk hc0_7
  clear hr0_7 hc0_7
  have HR1_3 := Aside0.mk hr1_3
  have HC1_3 := Aside0.mk hc1_3
  clear hr1_3 hc1_3
  have HR1_7 := Aside0.mk hr1_7
  have HC1_7 := Aside0.mk hc1_7
  clear hr1_7 hc1_7
  have HB := Aside0.mk (Below.refl w.heap.size w)
  have H : (if a0_0 = a1_0 then (if a0_1.toList = a1_1.toList then ((frankinglaw15_Same.f k a0_2 l0_3 a0_4 a0_5 a0_6 a1_2 l1_3 a1_4 a1_5 a1_6).bind fun t253 => (if t253 = true then (frankinglaw16_Same.j0 k ((l0_7.length : Int) != (l1_7.length : Int)) a0_0 a0_1 a0_2 l0_3 a0_4 a0_5 a0_6 l0_7 a1_0 a1_1 a1_2 l1_3 a1_4 a1_5 a1_6 l1_7) else (frankinglaw16_Same.j0 k true a0_0 a0_1 a0_2 l0_3 a0_4 a0_5 a0_6 l0_7 a1_0 a1_1 a1_2 l1_3 a1_4 a1_5 a1_6 l1_7))) else (frankinglaw16_Same.j0 k true a0_0 a0_1 a0_2 l0_3 a0_4 a0_5 a0_6 l0_7 a1_0 a1_1 a1_2 l1_3 a1_4 a1_5 a1_6 l1_7)) else (frankinglaw16_Same.j0 k true a0_0 a0_1 a0_2 l0_3 a0_4 a0_5 a0_6 l0_7 a1_0 a1_1 a1_2 l1_3 a1_4 a1_5 a1_6 l1_7)) = some r := h
  clear h
  have HC3 := Aside0.mk H
  clear H
  go_enter Tryz.func36, Tryz.ntmps36
  go_upto_region 1 with (first | ((with_reducible refine gate_dst (N := 2) rfl ?_); (try (refine gate_guard (by rfl) ?_; dsimp only)); refine box_event ?hg (N := 2) ?hd (cs := #[.int .u8 a0_0, .string a0_1, .bool a0_2, .slice A0_3 l0_3.length c0_3, .string a0_4, .string a0_5, .bool a0_6, .slice A0_7 l0_7.length c0_7]) (t := 35) ?hr ?_; (case hd => rfl); (case hg => rfl); (case hr => first | (go_simp; done) | (go_simp; rfl)); intro gb251 hg w4 hbox hb; have n0_ := Aside0.mk (below_step (by repeat (first | (with_reducible first | exact HB.out | apply below_alloc | apply pw_below_drewN | apply below_drew1) | exact HB.out)) hb); have n1_ := Aside0.mk (hbox); have n2_ := Aside0.mk ((by rw [hg]; exact (below_size (by repeat (first | (with_reducible first | exact HB.out | apply below_alloc | apply pw_below_drewN | apply below_drew1) | exact HB.out))) : w.heap.size ≤ gb251)); have n3_ := Aside0.mk ((by rw [hg]; exact (below_size (by repeat (first | (with_reducible first | exact HB.out | apply below_alloc | apply pw_below_drewN | apply below_drew1) | exact HB.out))) : w.heap.size ≤ gb251)); clear HB; have HB := n0_; have BK251 := n1_; have GW251 := n2_; have GE251 := n3_; clear n0_ n1_ n2_ n3_; clear hb hbox hg) | ((with_reducible refine gate_dst (N := 3) rfl ?_); (try (refine gate_guard (by rfl) ?_; dsimp only)); refine box_event ?hg (N := 3) ?hd (cs := #[.int .u8 a1_0, .string a1_1, .bool a1_2, .slice A1_3 l1_3.length c1_3, .string a1_4, .string a1_5, .bool a1_6, .slice A1_7 l1_7.length c1_7]) (t := 35) ?hr ?_; (case hd => rfl); (case hg => rfl); (case hr => first | (go_simp; done) | (go_simp; rfl)); intro gb252 hg w5 hbox hb; have n0_ := Aside0.mk (blk_below (g := gb251) (o := .cells #[.int .u8 a0_0, .string a0_1, .bool a0_2, .slice A0_3 l0_3.length c0_3, .string a0_4, .string a0_5, .bool a0_6, .slice A0_7 l0_7.length c0_7] 35 (0, 0)) (by (with_reducible repeat (first | refine blk_drewN ?_ _ | refine blk_drew ?_ | refine blk_alloc ?_ _)); exact BK251.out) hb); have n1_ := Aside0.mk (below_step (by repeat (first | (with_reducible first | exact HB.out | apply below_alloc | apply pw_below_drewN | apply below_drew1 | refine below_set ?_ GE251.out) | exact HB.out)) hb); have n2_ := Aside0.mk (hbox); have n3_ := Aside0.mk ((by rw [hg]; exact (below_size (by repeat (first | (with_reducible first | exact HB.out | apply below_alloc | apply pw_below_drewN | apply below_drew1 | refine below_set ?_ GE251.out) | exact HB.out))) : w.heap.size ≤ gb252)); have n4_ := Aside0.mk ((by rw [hg]; exact (below_size (by repeat (first | (with_reducible first | exact HB.out | apply below_alloc | apply pw_below_drewN | apply below_drew1 | refine below_set ?_ GE251.out) | exact HB.out))) : w.heap.size ≤ gb252)); have n5_ := Aside0.mk ((by rw [hg]; exact Nat.ne_of_lt (blk_lt (g := gb251) (o := .cells #[.int .u8 a0_0, .string a0_1, .bool a0_2, .slice A0_3 l0_3.length c0_3, .string a0_4, .string a0_5, .bool a0_6, .slice A0_7 l0_7.length c0_7] 35 (0, 0)) (by (with_reducible repeat (first | refine blk_drewN ?_ _ | refine blk_drew ?_ | refine blk_alloc ?_ _)); exact BK251.out)) : gb251 ≠ gb252)); have n6_ := Aside0.mk ((by rw [hg]; exact Nat.ne_of_gt (blk_lt (g := gb251) (o := .cells #[.int .u8 a0_0, .string a0_1, .bool a0_2, .slice A0_3 l0_3.length c0_3, .string a0_4, .string a0_5, .bool a0_6, .slice A0_7 l0_7.length c0_7] 35 (0, 0)) (by (with_reducible repeat (first | refine blk_drewN ?_ _ | refine blk_drew ?_ | refine blk_alloc ?_ _)); exact BK251.out)) : gb252 ≠ gb251)); clear BK251; clear HB; have BK251 := n0_; have HB := n1_; have BK252 := n2_; have GW252 := n3_; have GE252 := n4_; have NB251_252 := n5_; have NB252_251 := n6_; clear n0_ n1_ n2_ n3_ n4_ n5_ n6_; clear hb hbox hg))
  repeat (go_quiet (first | ((with_reducible refine gate_dst (N := 2) rfl ?_); (try (refine gate_guard (by rfl) ?_; dsimp only)); refine box_event ?hg (N := 2) ?hd (cs := #[.int .u8 a0_0, .string a0_1, .bool a0_2, .slice A0_3 l0_3.length c0_3, .string a0_4, .string a0_5, .bool a0_6, .slice A0_7 l0_7.length c0_7]) (t := 35) ?hr ?_; (case hd => rfl); (case hg => rfl); (case hr => first | (go_simp; done) | (go_simp; rfl)); intro gb251 hg w4 hbox hb; have n0_ := Aside0.mk (below_step (by repeat (first | (with_reducible first | exact HB.out | apply below_alloc | apply pw_below_drewN | apply below_drew1) | exact HB.out)) hb); have n1_ := Aside0.mk (hbox); have n2_ := Aside0.mk ((by rw [hg]; exact (below_size (by repeat (first | (with_reducible first | exact HB.out | apply below_alloc | apply pw_below_drewN | apply below_drew1) | exact HB.out))) : w.heap.size ≤ gb251)); have n3_ := Aside0.mk ((by rw [hg]; exact (below_size (by repeat (first | (with_reducible first | exact HB.out | apply below_alloc | apply pw_below_drewN | apply below_drew1) | exact HB.out))) : w.heap.size ≤ gb251)); clear HB; have HB := n0_; have BK251 := n1_; have GW251 := n2_; have GE251 := n3_; clear n0_ n1_ n2_ n3_; clear hb hbox hg) | ((with_reducible refine gate_dst (N := 3) rfl ?_); (try (refine gate_guard (by rfl) ?_; dsimp only)); refine box_event ?hg (N := 3) ?hd (cs := #[.int .u8 a1_0, .string a1_1, .bool a1_2, .slice A1_3 l1_3.length c1_3, .string a1_4, .string a1_5, .bool a1_6, .slice A1_7 l1_7.length c1_7]) (t := 35) ?hr ?_; (case hd => rfl); (case hg => rfl); (case hr => first | (go_simp; done) | (go_simp; rfl)); intro gb252 hg w5 hbox hb; have n0_ := Aside0.mk (blk_below (g := gb251) (o := .cells #[.int .u8 a0_0, .string a0_1, .bool a0_2, .slice A0_3 l0_3.length c0_3, .string a0_4, .string a0_5, .bool a0_6, .slice A0_7 l0_7.length c0_7] 35 (0, 0)) (by (with_reducible repeat (first | refine blk_drewN ?_ _ | refine blk_drew ?_ | refine blk_alloc ?_ _)); exact BK251.out) hb); have n1_ := Aside0.mk (below_step (by repeat (first | (with_reducible first | exact HB.out | apply below_alloc | apply pw_below_drewN | apply below_drew1 | refine below_set ?_ GE251.out) | exact HB.out)) hb); have n2_ := Aside0.mk (hbox); have n3_ := Aside0.mk ((by rw [hg]; exact (below_size (by repeat (first | (with_reducible first | exact HB.out | apply below_alloc | apply pw_below_drewN | apply below_drew1 | refine below_set ?_ GE251.out) | exact HB.out))) : w.heap.size ≤ gb252)); have n4_ := Aside0.mk ((by rw [hg]; exact (below_size (by repeat (first | (with_reducible first | exact HB.out | apply below_alloc | apply pw_below_drewN | apply below_drew1 | refine below_set ?_ GE251.out) | exact HB.out))) : w.heap.size ≤ gb252)); have n5_ := Aside0.mk ((by rw [hg]; exact Nat.ne_of_lt (blk_lt (g := gb251) (o := .cells #[.int .u8 a0_0, .string a0_1, .bool a0_2, .slice A0_3 l0_3.length c0_3, .string a0_4, .string a0_5, .bool a0_6, .slice A0_7 l0_7.length c0_7] 35 (0, 0)) (by (with_reducible repeat (first | refine blk_drewN ?_ _ | refine blk_drew ?_ | refine blk_alloc ?_ _)); exact BK251.out)) : gb251 ≠ gb252)); have n6_ := Aside0.mk ((by rw [hg]; exact Nat.ne_of_gt (blk_lt (g := gb251) (o := .cells #[.int .u8 a0_0, .string a0_1, .bool a0_2, .slice A0_3 l0_3.length c0_3, .string a0_4, .string a0_5, .bool a0_6, .slice A0_7 l0_7.length c0_7] 35 (0, 0)) (by (with_reducible repeat (first | refine blk_drewN ?_ _ | refine blk_drew ?_ | refine blk_alloc ?_ _)); exact BK251.out)) : gb252 ≠ gb251)); clear BK251; clear HB; have BK251 := n0_; have HB := n1_; have BK252 := n2_; have GW252 := n3_; have GE252 := n4_; have NB251_252 := n5_; have NB252_251 := n6_; clear n0_ n1_ n2_ n3_ n4_ n5_ n6_; clear hb hbox hg)); go_upto_region 1 with (first | ((with_reducible refine gate_dst (N := 2) rfl ?_); (try (refine gate_guard (by rfl) ?_; dsimp only)); refine box_event ?hg (N := 2) ?hd (cs := #[.int .u8 a0_0, .string a0_1, .bool a0_2, .slice A0_3 l0_3.length c0_3, .string a0_4, .string a0_5, .bool a0_6, .slice A0_7 l0_7.length c0_7]) (t := 35) ?hr ?_; (case hd => rfl); (case hg => rfl); (case hr => first | (go_simp; done) | (go_simp; rfl)); intro gb251 hg w4 hbox hb; have n0_ := Aside0.mk (below_step (by repeat (first | (with_reducible first | exact HB.out | apply below_alloc | apply pw_below_drewN | apply below_drew1) | exact HB.out)) hb); have n1_ := Aside0.mk (hbox); have n2_ := Aside0.mk ((by rw [hg]; exact (below_size (by repeat (first | (with_reducible first | exact HB.out | apply below_alloc | apply pw_below_drewN | apply below_drew1) | exact HB.out))) : w.heap.size ≤ gb251)); have n3_ := Aside0.mk ((by rw [hg]; exact (below_size (by repeat (first | (with_reducible first | exact HB.out | apply below_alloc | apply pw_below_drewN | apply below_drew1) | exact HB.out))) : w.heap.size ≤ gb251)); clear HB; have HB := n0_; have BK251 := n1_; have GW251 := n2_; have GE251 := n3_; clear n0_ n1_ n2_ n3_; clear hb hbox hg) | ((with_reducible refine gate_dst (N := 3) rfl ?_); (try (refine gate_guard (by rfl) ?_; dsimp only)); refine box_event ?hg (N := 3) ?hd (cs := #[.int .u8 a1_0, .string a1_1, .bool a1_2, .slice A1_3 l1_3.length c1_3, .string a1_4, .string a1_5, .bool a1_6, .slice A1_7 l1_7.length c1_7]) (t := 35) ?hr ?_; (case hd => rfl); (case hg => rfl); (case hr => first | (go_simp; done) | (go_simp; rfl)); intro gb252 hg w5 hbox hb; have n0_ := Aside0.mk (blk_below (g := gb251) (o := .cells #[.int .u8 a0_0, .string a0_1, .bool a0_2, .slice A0_3 l0_3.length c0_3, .string a0_4, .string a0_5, .bool a0_6, .slice A0_7 l0_7.length c0_7] 35 (0, 0)) (by (with_reducible repeat (first | refine blk_drewN ?_ _ | refine blk_drew ?_ | refine blk_alloc ?_ _)); exact BK251.out) hb); have n1_ := Aside0.mk (below_step (by repeat (first | (with_reducible first | exact HB.out | apply below_alloc | apply pw_below_drewN | apply below_drew1 | refine below_set ?_ GE251.out) | exact HB.out)) hb); have n2_ := Aside0.mk (hbox); have n3_ := Aside0.mk ((by rw [hg]; exact (below_size (by repeat (first | (with_reducible first | exact HB.out | apply below_alloc | apply pw_below_drewN | apply below_drew1 | refine below_set ?_ GE251.out) | exact HB.out))) : w.heap.size ≤ gb252)); have n4_ := Aside0.mk ((by rw [hg]; exact (below_size (by repeat (first | (with_reducible first | exact HB.out | apply below_alloc | apply pw_below_drewN | apply below_drew1 | refine below_set ?_ GE251.out) | exact HB.out))) : w.heap.size ≤ gb252)); have n5_ := Aside0.mk ((by rw [hg]; exact Nat.ne_of_lt (blk_lt (g := gb251) (o := .cells #[.int .u8 a0_0, .string a0_1, .bool a0_2, .slice A0_3 l0_3.length c0_3, .string a0_4, .string a0_5, .bool a0_6, .slice A0_7 l0_7.length c0_7] 35 (0, 0)) (by (with_reducible repeat (first | refine blk_drewN ?_ _ | refine blk_drew ?_ | refine blk_alloc ?_ _)); exact BK251.out)) : gb251 ≠ gb252)); have n6_ := Aside0.mk ((by rw [hg]; exact Nat.ne_of_gt (blk_lt (g := gb251) (o := .cells #[.int .u8 a0_0, .string a0_1, .bool a0_2, .slice A0_3 l0_3.length c0_3, .string a0_4, .string a0_5, .bool a0_6, .slice A0_7 l0_7.length c0_7] 35 (0, 0)) (by (with_reducible repeat (first | refine blk_drewN ?_ _ | refine blk_drew ?_ | refine blk_alloc ?_ _)); exact BK251.out)) : gb252 ≠ gb251)); clear BK251; clear HB; have BK251 := n0_; have HB := n1_; have BK252 := n2_; have GW252 := n3_; have GE252 := n4_; have NB251_252 := n5_; have NB252_251 := n6_; clear n0_ n1_ n2_ n3_ n4_ n5_ n6_; clear hb hbox hg)))
  (try simp only [Act.put, List.setIfInBounds_toArray, List.set_cons_zero, List.set_cons_succ])
  go_cut [34] (fun v34 wc => ∃ (kq : Nat) (x34_2 : Bool), v34 = .bool x34_2 ∧ Aside0 (frankinglaw16_Same.j0 kq x34_2 a0_0 a0_1 a0_2 l0_3 a0_4 a0_5 a0_6 l0_7 a1_0 a1_1 a1_2 l1_3 a1_4 a1_5 a1_6 l1_7 = some r) ∧ Aside0 (kq ≤ k) ∧ Aside0 (wc.heap[gb251]? = some (.cells #[.int .u8 a0_0, .string a0_1, .bool a0_2, (.slice A0_3 l0_3.length c0_3), .string a0_4, .string a0_5, .bool a0_6, (.slice A0_7 l0_7.length c0_7)] 35 (0, 0))) ∧ Aside0 (wc.heap[gb252]? = some (.cells #[.int .u8 a1_0, .string a1_1, .bool a1_2, (.slice A1_3 l1_3.length c1_3), .string a1_4, .string a1_5, .bool a1_6, (.slice A1_7 l1_7.length c1_7)] 35 (0, 0))) ∧ Aside0 (Below w.heap.size w wc))
  case first =>
    have H := HC3.out
    clear HC3
    by_cases c6 : a0_0 = a1_0
    · rw [if_pos c6] at H
      have c6b0 : (a0_0 == a1_0) = true := beq_iff_eq.mpr c6
      have c6b1 : (a0_0 != a1_0) = false := bne_eq_false_iff_eq.mpr c6
      clear c6
      (first | rw [c6b0] | (simp only [i64_w, i32_w]; rw [c6b0]) | skip)
      by_cases c7 : a0_1.toList = a1_1.toList
      · rw [if_pos c7] at H
        have c7b0 : (a0_1.toList == a1_1.toList) = true := beq_iff_eq.mpr c7
        have c7b1 : (a0_1.toList != a1_1.toList) = false := bne_eq_false_iff_eq.mpr c7
        clear c7
        replace H := Option.bind_eq_some_iff.mp H
        obtain ⟨t253, A80, H⟩ := H
        replace H : (if t253 = true then (frankinglaw16_Same.j0 k ((l0_7.length : Int) != (l1_7.length : Int)) a0_0 a0_1 a0_2 l0_3 a0_4 a0_5 a0_6 l0_7 a1_0 a1_1 a1_2 l1_3 a1_4 a1_5 a1_6 l1_7) else (frankinglaw16_Same.j0 k true a0_0 a0_1 a0_2 l0_3 a0_4 a0_5 a0_6 l0_7 a1_0 a1_1 a1_2 l1_3 a1_4 a1_5 a1_6 l1_7)) = some r := H
        have A8 := Aside0.mk A80
        clear A80
        by_cases c9 : t253 = true
        · subst c9
          have H1 : (frankinglaw16_Same.j0 k ((l0_7.length : Int) != (l1_7.length : Int)) a0_0 a0_1 a0_2 l0_3 a0_4 a0_5 a0_6 l0_7 a1_0 a1_1 a1_2 l1_3 a1_4 a1_5 a1_6 l1_7) = some r := by rw [if_pos rfl] at H; exact H
          clear H
          have H := H1
          clear H1
          have H' := Aside0.mk H
          clear H
          have hnb10 := NB251_252.out
          have hnc10 := NB252_251.out
          have hcz11_0 : w5.cell? ⟨gb251, 0, none⟩ = some (.int .u8 a0_0) := (blk_cell BK251.out 0).trans rfl
          have hcz11_1 : w5.cell? ⟨gb251, 1, none⟩ = some (.string a0_1) := (blk_cell BK251.out 1).trans rfl
          have hcz11_2 : w5.cell? ⟨gb251, 2, none⟩ = some (.bool a0_2) := (blk_cell BK251.out 2).trans rfl
          have hcz11_3 : w5.cell? ⟨gb251, 3, none⟩ = some (.slice A0_3 l0_3.length c0_3) := (blk_cell BK251.out 3).trans rfl
          have hcz11_4 : w5.cell? ⟨gb251, 4, none⟩ = some (.string a0_4) := (blk_cell BK251.out 4).trans rfl
          have hcz11_5 : w5.cell? ⟨gb251, 5, none⟩ = some (.string a0_5) := (blk_cell BK251.out 5).trans rfl
          have hcz11_6 : w5.cell? ⟨gb251, 6, none⟩ = some (.bool a0_6) := (blk_cell BK251.out 6).trans rfl
          have hcz11_7 : w5.cell? ⟨gb251, 7, none⟩ = some (.slice A0_7 l0_7.length c0_7) := (blk_cell BK251.out 7).trans rfl
          have hfz11_0 := blk_frozen BK251.out 0
          have hfz11_1 := blk_frozen BK251.out 1
          have hfz11_2 := blk_frozen BK251.out 2
          have hfz11_3 := blk_frozen BK251.out 3
          have hfz11_4 := blk_frozen BK251.out 4
          have hfz11_5 := blk_frozen BK251.out 5
          have hfz11_6 := blk_frozen BK251.out 6
          have hfz11_7 := blk_frozen BK251.out 7
          have hcz12_0 : w5.cell? ⟨gb252, 0, none⟩ = some (.int .u8 a1_0) := (blk_cell BK252.out 0).trans rfl
          have hcz12_1 : w5.cell? ⟨gb252, 1, none⟩ = some (.string a1_1) := (blk_cell BK252.out 1).trans rfl
          have hcz12_2 : w5.cell? ⟨gb252, 2, none⟩ = some (.bool a1_2) := (blk_cell BK252.out 2).trans rfl
          have hcz12_3 : w5.cell? ⟨gb252, 3, none⟩ = some (.slice A1_3 l1_3.length c1_3) := (blk_cell BK252.out 3).trans rfl
          have hcz12_4 : w5.cell? ⟨gb252, 4, none⟩ = some (.string a1_4) := (blk_cell BK252.out 4).trans rfl
          have hcz12_5 : w5.cell? ⟨gb252, 5, none⟩ = some (.string a1_5) := (blk_cell BK252.out 5).trans rfl
          have hcz12_6 : w5.cell? ⟨gb252, 6, none⟩ = some (.bool a1_6) := (blk_cell BK252.out 6).trans rfl
          have hcz12_7 : w5.cell? ⟨gb252, 7, none⟩ = some (.slice A1_7 l1_7.length c1_7) := (blk_cell BK252.out 7).trans rfl
          have hfz12_0 := blk_frozen BK252.out 0
          have hfz12_1 := blk_frozen BK252.out 1
          have hfz12_2 := blk_frozen BK252.out 2
          have hfz12_3 := blk_frozen BK252.out 3
          have hfz12_4 := blk_frozen BK252.out 4
          have hfz12_5 := blk_frozen BK252.out 5
          have hfz12_6 := blk_frozen BK252.out 6
          have hfz12_7 := blk_frozen BK252.out 7
          go_wp2_with (first | (go_at_call 18; (with_reducible refine (frankinglaw15_Same.calls k a0_2 _ _ l0_3 a0_4 a0_5 a0_6 a1_2 _ _ l1_3 a1_4 a1_5 a1_6 true _ ?side1 ?side2 ?side3 ?side4 A8.out).mono ?_); (case side1 => repeat (first | exact (Kd.C_below HR0_3.out HB.out) | (with_reducible refine Kd.C_alloc ?_ _) | (with_reducible refine Kd.C_drewN ?_ _) | (with_reducible refine Kd.C_drew ?_))); (case side2 => exact HC0_3.out); (case side3 => repeat (first | exact (Kd.C_below HR1_3.out HB.out) | (with_reducible refine Kd.C_alloc ?_ _) | (with_reducible refine Kd.C_drewN ?_ _) | (with_reducible refine Kd.C_drew ?_))); (case side4 => exact HC1_3.out); rintro e w13 ⟨rfl, hb⟩; have n0_ := Aside0.mk (blk_below (g := gb251) (o := .cells #[.int .u8 a0_0, .string a0_1, .bool a0_2, .slice A0_3 l0_3.length c0_3, .string a0_4, .string a0_5, .bool a0_6, .slice A0_7 l0_7.length c0_7] 35 (0, 0)) (by (with_reducible repeat (first | refine blk_drewN ?_ _ | refine blk_drew ?_ | refine blk_alloc ?_ _)); exact BK251.out) hb); have n1_ := Aside0.mk (blk_below (g := gb252) (o := .cells #[.int .u8 a1_0, .string a1_1, .bool a1_2, .slice A1_3 l1_3.length c1_3, .string a1_4, .string a1_5, .bool a1_6, .slice A1_7 l1_7.length c1_7] 35 (0, 0)) (by (with_reducible repeat (first | refine blk_drewN ?_ _ | refine blk_drew ?_ | refine blk_alloc ?_ _)); exact BK252.out) hb); have n2_ := Aside0.mk (below_step (by repeat (first | (with_reducible first | exact HB.out | apply below_alloc | apply pw_below_drewN | apply below_drew1 | refine below_set ?_ GE251.out | refine below_set ?_ GE252.out) | exact HB.out)) hb); clear BK251; clear BK252; clear HB; have BK251 := n0_; have BK252 := n1_; have HB := n2_; clear n0_ n1_ n2_; (try clear hb); (try clear hb2); (try clear hk); (try clear hi); have hcz14_0 : w13.cell? ⟨gb251, 0, none⟩ = some (.int .u8 a0_0) := (blk_cell BK251.out 0).trans rfl; have hcz14_1 : w13.cell? ⟨gb251, 1, none⟩ = some (.string a0_1) := (blk_cell BK251.out 1).trans rfl; have hcz14_2 : w13.cell? ⟨gb251, 2, none⟩ = some (.bool a0_2) := (blk_cell BK251.out 2).trans rfl; have hcz14_3 : w13.cell? ⟨gb251, 3, none⟩ = some (.slice A0_3 l0_3.length c0_3) := (blk_cell BK251.out 3).trans rfl; have hcz14_4 : w13.cell? ⟨gb251, 4, none⟩ = some (.string a0_4) := (blk_cell BK251.out 4).trans rfl; have hcz14_5 : w13.cell? ⟨gb251, 5, none⟩ = some (.string a0_5) := (blk_cell BK251.out 5).trans rfl; have hcz14_6 : w13.cell? ⟨gb251, 6, none⟩ = some (.bool a0_6) := (blk_cell BK251.out 6).trans rfl; have hcz14_7 : w13.cell? ⟨gb251, 7, none⟩ = some (.slice A0_7 l0_7.length c0_7) := (blk_cell BK251.out 7).trans rfl; have hfz14_0 := blk_frozen BK251.out 0; have hfz14_1 := blk_frozen BK251.out 1; have hfz14_2 := blk_frozen BK251.out 2; have hfz14_3 := blk_frozen BK251.out 3; have hfz14_4 := blk_frozen BK251.out 4; have hfz14_5 := blk_frozen BK251.out 5; have hfz14_6 := blk_frozen BK251.out 6; have hfz14_7 := blk_frozen BK251.out 7; have hcz15_0 : w13.cell? ⟨gb252, 0, none⟩ = some (.int .u8 a1_0) := (blk_cell BK252.out 0).trans rfl; have hcz15_1 : w13.cell? ⟨gb252, 1, none⟩ = some (.string a1_1) := (blk_cell BK252.out 1).trans rfl; have hcz15_2 : w13.cell? ⟨gb252, 2, none⟩ = some (.bool a1_2) := (blk_cell BK252.out 2).trans rfl; have hcz15_3 : w13.cell? ⟨gb252, 3, none⟩ = some (.slice A1_3 l1_3.length c1_3) := (blk_cell BK252.out 3).trans rfl; have hcz15_4 : w13.cell? ⟨gb252, 4, none⟩ = some (.string a1_4) := (blk_cell BK252.out 4).trans rfl; have hcz15_5 : w13.cell? ⟨gb252, 5, none⟩ = some (.string a1_5) := (blk_cell BK252.out 5).trans rfl; have hcz15_6 : w13.cell? ⟨gb252, 6, none⟩ = some (.bool a1_6) := (blk_cell BK252.out 6).trans rfl; have hcz15_7 : w13.cell? ⟨gb252, 7, none⟩ = some (.slice A1_7 l1_7.length c1_7) := (blk_cell BK252.out 7).trans rfl; have hfz15_0 := blk_frozen BK252.out 0; have hfz15_1 := blk_frozen BK252.out 1; have hfz15_2 := blk_frozen BK252.out 2; have hfz15_3 := blk_frozen BK252.out 3; have hfz15_4 := blk_frozen BK252.out 4; have hfz15_5 := blk_frozen BK252.out 5; have hfz15_6 := blk_frozen BK252.out 6; have hfz15_7 := blk_frozen BK252.out 7))
          repeat (go_quiet (first | (go_at_call 18; (with_reducible refine (frankinglaw15_Same.calls k a0_2 _ _ l0_3 a0_4 a0_5 a0_6 a1_2 _ _ l1_3 a1_4 a1_5 a1_6 true _ ?side1 ?side2 ?side3 ?side4 A8.out).mono ?_); (case side1 => repeat (first | exact (Kd.C_below HR0_3.out HB.out) | (with_reducible refine Kd.C_alloc ?_ _) | (with_reducible refine Kd.C_drewN ?_ _) | (with_reducible refine Kd.C_drew ?_))); (case side2 => exact HC0_3.out); (case side3 => repeat (first | exact (Kd.C_below HR1_3.out HB.out) | (with_reducible refine Kd.C_alloc ?_ _) | (with_reducible refine Kd.C_drewN ?_ _) | (with_reducible refine Kd.C_drew ?_))); (case side4 => exact HC1_3.out); rintro e w13 ⟨rfl, hb⟩; have n0_ := Aside0.mk (blk_below (g := gb251) (o := .cells #[.int .u8 a0_0, .string a0_1, .bool a0_2, .slice A0_3 l0_3.length c0_3, .string a0_4, .string a0_5, .bool a0_6, .slice A0_7 l0_7.length c0_7] 35 (0, 0)) (by (with_reducible repeat (first | refine blk_drewN ?_ _ | refine blk_drew ?_ | refine blk_alloc ?_ _)); exact BK251.out) hb); have n1_ := Aside0.mk (blk_below (g := gb252) (o := .cells #[.int .u8 a1_0, .string a1_1, .bool a1_2, .slice A1_3 l1_3.length c1_3, .string a1_4, .string a1_5, .bool a1_6, .slice A1_7 l1_7.length c1_7] 35 (0, 0)) (by (with_reducible repeat (first | refine blk_drewN ?_ _ | refine blk_drew ?_ | refine blk_alloc ?_ _)); exact BK252.out) hb); have n2_ := Aside0.mk (below_step (by repeat (first | (with_reducible first | exact HB.out | apply below_alloc | apply pw_below_drewN | apply below_drew1 | refine below_set ?_ GE251.out | refine below_set ?_ GE252.out) | exact HB.out)) hb); clear BK251; clear BK252; clear HB; have BK251 := n0_; have BK252 := n1_; have HB := n2_; clear n0_ n1_ n2_; (try clear hb); (try clear hb2); (try clear hk); (try clear hi); have hcz14_0 : w13.cell? ⟨gb251, 0, none⟩ = some (.int .u8 a0_0) := (blk_cell BK251.out 0).trans rfl; have hcz14_1 : w13.cell? ⟨gb251, 1, none⟩ = some (.string a0_1) := (blk_cell BK251.out 1).trans rfl; have hcz14_2 : w13.cell? ⟨gb251, 2, none⟩ = some (.bool a0_2) := (blk_cell BK251.out 2).trans rfl; have hcz14_3 : w13.cell? ⟨gb251, 3, none⟩ = some (.slice A0_3 l0_3.length c0_3) := (blk_cell BK251.out 3).trans rfl; have hcz14_4 : w13.cell? ⟨gb251, 4, none⟩ = some (.string a0_4) := (blk_cell BK251.out 4).trans rfl; have hcz14_5 : w13.cell? ⟨gb251, 5, none⟩ = some (.string a0_5) := (blk_cell BK251.out 5).trans rfl; have hcz14_6 : w13.cell? ⟨gb251, 6, none⟩ = some (.bool a0_6) := (blk_cell BK251.out 6).trans rfl; have hcz14_7 : w13.cell? ⟨gb251, 7, none⟩ = some (.slice A0_7 l0_7.length c0_7) := (blk_cell BK251.out 7).trans rfl; have hfz14_0 := blk_frozen BK251.out 0; have hfz14_1 := blk_frozen BK251.out 1; have hfz14_2 := blk_frozen BK251.out 2; have hfz14_3 := blk_frozen BK251.out 3; have hfz14_4 := blk_frozen BK251.out 4; have hfz14_5 := blk_frozen BK251.out 5; have hfz14_6 := blk_frozen BK251.out 6; have hfz14_7 := blk_frozen BK251.out 7; have hcz15_0 : w13.cell? ⟨gb252, 0, none⟩ = some (.int .u8 a1_0) := (blk_cell BK252.out 0).trans rfl; have hcz15_1 : w13.cell? ⟨gb252, 1, none⟩ = some (.string a1_1) := (blk_cell BK252.out 1).trans rfl; have hcz15_2 : w13.cell? ⟨gb252, 2, none⟩ = some (.bool a1_2) := (blk_cell BK252.out 2).trans rfl; have hcz15_3 : w13.cell? ⟨gb252, 3, none⟩ = some (.slice A1_3 l1_3.length c1_3) := (blk_cell BK252.out 3).trans rfl; have hcz15_4 : w13.cell? ⟨gb252, 4, none⟩ = some (.string a1_4) := (blk_cell BK252.out 4).trans rfl; have hcz15_5 : w13.cell? ⟨gb252, 5, none⟩ = some (.string a1_5) := (blk_cell BK252.out 5).trans rfl; have hcz15_6 : w13.cell? ⟨gb252, 6, none⟩ = some (.bool a1_6) := (blk_cell BK252.out 6).trans rfl; have hcz15_7 : w13.cell? ⟨gb252, 7, none⟩ = some (.slice A1_7 l1_7.length c1_7) := (blk_cell BK252.out 7).trans rfl; have hfz15_0 := blk_frozen BK252.out 0; have hfz15_1 := blk_frozen BK252.out 1; have hfz15_2 := blk_frozen BK252.out 2; have hfz15_3 := blk_frozen BK252.out 3; have hfz15_4 := blk_frozen BK252.out 4; have hfz15_5 := blk_frozen BK252.out 5; have hfz15_6 := blk_frozen BK252.out 6; have hfz15_7 := blk_frozen BK252.out 7)); try go_wp2_with (first | (go_at_call 18; (with_reducible refine (frankinglaw15_Same.calls k a0_2 _ _ l0_3 a0_4 a0_5 a0_6 a1_2 _ _ l1_3 a1_4 a1_5 a1_6 true _ ?side1 ?side2 ?side3 ?side4 A8.out).mono ?_); (case side1 => repeat (first | exact (Kd.C_below HR0_3.out HB.out) | (with_reducible refine Kd.C_alloc ?_ _) | (with_reducible refine Kd.C_drewN ?_ _) | (with_reducible refine Kd.C_drew ?_))); (case side2 => exact HC0_3.out); (case side3 => repeat (first | exact (Kd.C_below HR1_3.out HB.out) | (with_reducible refine Kd.C_alloc ?_ _) | (with_reducible refine Kd.C_drewN ?_ _) | (with_reducible refine Kd.C_drew ?_))); (case side4 => exact HC1_3.out); rintro e w13 ⟨rfl, hb⟩; have n0_ := Aside0.mk (blk_below (g := gb251) (o := .cells #[.int .u8 a0_0, .string a0_1, .bool a0_2, .slice A0_3 l0_3.length c0_3, .string a0_4, .string a0_5, .bool a0_6, .slice A0_7 l0_7.length c0_7] 35 (0, 0)) (by (with_reducible repeat (first | refine blk_drewN ?_ _ | refine blk_drew ?_ | refine blk_alloc ?_ _)); exact BK251.out) hb); have n1_ := Aside0.mk (blk_below (g := gb252) (o := .cells #[.int .u8 a1_0, .string a1_1, .bool a1_2, .slice A1_3 l1_3.length c1_3, .string a1_4, .string a1_5, .bool a1_6, .slice A1_7 l1_7.length c1_7] 35 (0, 0)) (by (with_reducible repeat (first | refine blk_drewN ?_ _ | refine blk_drew ?_ | refine blk_alloc ?_ _)); exact BK252.out) hb); have n2_ := Aside0.mk (below_step (by repeat (first | (with_reducible first | exact HB.out | apply below_alloc | apply pw_below_drewN | apply below_drew1 | refine below_set ?_ GE251.out | refine below_set ?_ GE252.out) | exact HB.out)) hb); clear BK251; clear BK252; clear HB; have BK251 := n0_; have BK252 := n1_; have HB := n2_; clear n0_ n1_ n2_; (try clear hb); (try clear hb2); (try clear hk); (try clear hi); have hcz14_0 : w13.cell? ⟨gb251, 0, none⟩ = some (.int .u8 a0_0) := (blk_cell BK251.out 0).trans rfl; have hcz14_1 : w13.cell? ⟨gb251, 1, none⟩ = some (.string a0_1) := (blk_cell BK251.out 1).trans rfl; have hcz14_2 : w13.cell? ⟨gb251, 2, none⟩ = some (.bool a0_2) := (blk_cell BK251.out 2).trans rfl; have hcz14_3 : w13.cell? ⟨gb251, 3, none⟩ = some (.slice A0_3 l0_3.length c0_3) := (blk_cell BK251.out 3).trans rfl; have hcz14_4 : w13.cell? ⟨gb251, 4, none⟩ = some (.string a0_4) := (blk_cell BK251.out 4).trans rfl; have hcz14_5 : w13.cell? ⟨gb251, 5, none⟩ = some (.string a0_5) := (blk_cell BK251.out 5).trans rfl; have hcz14_6 : w13.cell? ⟨gb251, 6, none⟩ = some (.bool a0_6) := (blk_cell BK251.out 6).trans rfl; have hcz14_7 : w13.cell? ⟨gb251, 7, none⟩ = some (.slice A0_7 l0_7.length c0_7) := (blk_cell BK251.out 7).trans rfl; have hfz14_0 := blk_frozen BK251.out 0; have hfz14_1 := blk_frozen BK251.out 1; have hfz14_2 := blk_frozen BK251.out 2; have hfz14_3 := blk_frozen BK251.out 3; have hfz14_4 := blk_frozen BK251.out 4; have hfz14_5 := blk_frozen BK251.out 5; have hfz14_6 := blk_frozen BK251.out 6; have hfz14_7 := blk_frozen BK251.out 7; have hcz15_0 : w13.cell? ⟨gb252, 0, none⟩ = some (.int .u8 a1_0) := (blk_cell BK252.out 0).trans rfl; have hcz15_1 : w13.cell? ⟨gb252, 1, none⟩ = some (.string a1_1) := (blk_cell BK252.out 1).trans rfl; have hcz15_2 : w13.cell? ⟨gb252, 2, none⟩ = some (.bool a1_2) := (blk_cell BK252.out 2).trans rfl; have hcz15_3 : w13.cell? ⟨gb252, 3, none⟩ = some (.slice A1_3 l1_3.length c1_3) := (blk_cell BK252.out 3).trans rfl; have hcz15_4 : w13.cell? ⟨gb252, 4, none⟩ = some (.string a1_4) := (blk_cell BK252.out 4).trans rfl; have hcz15_5 : w13.cell? ⟨gb252, 5, none⟩ = some (.string a1_5) := (blk_cell BK252.out 5).trans rfl; have hcz15_6 : w13.cell? ⟨gb252, 6, none⟩ = some (.bool a1_6) := (blk_cell BK252.out 6).trans rfl; have hcz15_7 : w13.cell? ⟨gb252, 7, none⟩ = some (.slice A1_7 l1_7.length c1_7) := (blk_cell BK252.out 7).trans rfl; have hfz15_0 := blk_frozen BK252.out 0; have hfz15_1 := blk_frozen BK252.out 1; have hfz15_2 := blk_frozen BK252.out 2; have hfz15_3 := blk_frozen BK252.out 3; have hfz15_4 := blk_frozen BK252.out 4; have hfz15_5 := blk_frozen BK252.out 5; have hfz15_6 := blk_frozen BK252.out 6; have hfz15_7 := blk_frozen BK252.out 7)))
          go_meet
          case rel => exact ⟨_, (((l0_7.length : Int) != (l1_7.length : Int))), (by first | rfl | (simp; done) | (simp [*]; done)), H', ⟨by first | omega | exact Nat.le_refl _⟩, ⟨by (with_reducible repeat (first | refine blk_drewN ?_ _ | refine blk_drew ?_ | refine blk_alloc ?_ _)); exact BK251.out⟩, ⟨by (with_reducible repeat (first | refine blk_drewN ?_ _ | refine blk_drew ?_ | refine blk_alloc ?_ _)); exact BK252.out⟩, ⟨by repeat (first | (with_reducible first | exact HB.out | apply below_alloc | apply pw_below_drewN | apply below_drew1 | refine below_set ?_ GE251.out | refine below_set ?_ GE252.out) | exact HB.out)⟩⟩
        · replace c9 := Bool.eq_false_iff.mpr c9
          subst c9
          have H1 : (frankinglaw16_Same.j0 k true a0_0 a0_1 a0_2 l0_3 a0_4 a0_5 a0_6 l0_7 a1_0 a1_1 a1_2 l1_3 a1_4 a1_5 a1_6 l1_7) = some r := by rw [if_neg (show ¬ (false = true) by decide)] at H; exact H
          clear H
          have H := H1
          clear H1
          have H' := Aside0.mk H
          clear H
          have hnb16 := NB251_252.out
          have hnc16 := NB252_251.out
          have hcz17_0 : w5.cell? ⟨gb251, 0, none⟩ = some (.int .u8 a0_0) := (blk_cell BK251.out 0).trans rfl
          have hcz17_1 : w5.cell? ⟨gb251, 1, none⟩ = some (.string a0_1) := (blk_cell BK251.out 1).trans rfl
          have hcz17_2 : w5.cell? ⟨gb251, 2, none⟩ = some (.bool a0_2) := (blk_cell BK251.out 2).trans rfl
          have hcz17_3 : w5.cell? ⟨gb251, 3, none⟩ = some (.slice A0_3 l0_3.length c0_3) := (blk_cell BK251.out 3).trans rfl
          have hcz17_4 : w5.cell? ⟨gb251, 4, none⟩ = some (.string a0_4) := (blk_cell BK251.out 4).trans rfl
          have hcz17_5 : w5.cell? ⟨gb251, 5, none⟩ = some (.string a0_5) := (blk_cell BK251.out 5).trans rfl
          have hcz17_6 : w5.cell? ⟨gb251, 6, none⟩ = some (.bool a0_6) := (blk_cell BK251.out 6).trans rfl
          have hcz17_7 : w5.cell? ⟨gb251, 7, none⟩ = some (.slice A0_7 l0_7.length c0_7) := (blk_cell BK251.out 7).trans rfl
          have hfz17_0 := blk_frozen BK251.out 0
          have hfz17_1 := blk_frozen BK251.out 1
          have hfz17_2 := blk_frozen BK251.out 2
          have hfz17_3 := blk_frozen BK251.out 3
          have hfz17_4 := blk_frozen BK251.out 4
          have hfz17_5 := blk_frozen BK251.out 5
          have hfz17_6 := blk_frozen BK251.out 6
          have hfz17_7 := blk_frozen BK251.out 7
          have hcz18_0 : w5.cell? ⟨gb252, 0, none⟩ = some (.int .u8 a1_0) := (blk_cell BK252.out 0).trans rfl
          have hcz18_1 : w5.cell? ⟨gb252, 1, none⟩ = some (.string a1_1) := (blk_cell BK252.out 1).trans rfl
          have hcz18_2 : w5.cell? ⟨gb252, 2, none⟩ = some (.bool a1_2) := (blk_cell BK252.out 2).trans rfl
          have hcz18_3 : w5.cell? ⟨gb252, 3, none⟩ = some (.slice A1_3 l1_3.length c1_3) := (blk_cell BK252.out 3).trans rfl
          have hcz18_4 : w5.cell? ⟨gb252, 4, none⟩ = some (.string a1_4) := (blk_cell BK252.out 4).trans rfl
          have hcz18_5 : w5.cell? ⟨gb252, 5, none⟩ = some (.string a1_5) := (blk_cell BK252.out 5).trans rfl
          have hcz18_6 : w5.cell? ⟨gb252, 6, none⟩ = some (.bool a1_6) := (blk_cell BK252.out 6).trans rfl
          have hcz18_7 : w5.cell? ⟨gb252, 7, none⟩ = some (.slice A1_7 l1_7.length c1_7) := (blk_cell BK252.out 7).trans rfl
          have hfz18_0 := blk_frozen BK252.out 0
          have hfz18_1 := blk_frozen BK252.out 1
          have hfz18_2 := blk_frozen BK252.out 2
          have hfz18_3 := blk_frozen BK252.out 3
          have hfz18_4 := blk_frozen BK252.out 4
          have hfz18_5 := blk_frozen BK252.out 5
          have hfz18_6 := blk_frozen BK252.out 6
          have hfz18_7 := blk_frozen BK252.out 7
          go_wp2_with (first | (go_at_call 18; (with_reducible refine (frankinglaw15_Same.calls k a0_2 _ _ l0_3 a0_4 a0_5 a0_6 a1_2 _ _ l1_3 a1_4 a1_5 a1_6 false _ ?side1 ?side2 ?side3 ?side4 A8.out).mono ?_); (case side1 => repeat (first | exact (Kd.C_below HR0_3.out HB.out) | (with_reducible refine Kd.C_alloc ?_ _) | (with_reducible refine Kd.C_drewN ?_ _) | (with_reducible refine Kd.C_drew ?_))); (case side2 => exact HC0_3.out); (case side3 => repeat (first | exact (Kd.C_below HR1_3.out HB.out) | (with_reducible refine Kd.C_alloc ?_ _) | (with_reducible refine Kd.C_drewN ?_ _) | (with_reducible refine Kd.C_drew ?_))); (case side4 => exact HC1_3.out); rintro e w19 ⟨rfl, hb⟩; have n0_ := Aside0.mk (blk_below (g := gb251) (o := .cells #[.int .u8 a0_0, .string a0_1, .bool a0_2, .slice A0_3 l0_3.length c0_3, .string a0_4, .string a0_5, .bool a0_6, .slice A0_7 l0_7.length c0_7] 35 (0, 0)) (by (with_reducible repeat (first | refine blk_drewN ?_ _ | refine blk_drew ?_ | refine blk_alloc ?_ _)); exact BK251.out) hb); have n1_ := Aside0.mk (blk_below (g := gb252) (o := .cells #[.int .u8 a1_0, .string a1_1, .bool a1_2, .slice A1_3 l1_3.length c1_3, .string a1_4, .string a1_5, .bool a1_6, .slice A1_7 l1_7.length c1_7] 35 (0, 0)) (by (with_reducible repeat (first | refine blk_drewN ?_ _ | refine blk_drew ?_ | refine blk_alloc ?_ _)); exact BK252.out) hb); have n2_ := Aside0.mk (below_step (by repeat (first | (with_reducible first | exact HB.out | apply below_alloc | apply pw_below_drewN | apply below_drew1 | refine below_set ?_ GE251.out | refine below_set ?_ GE252.out) | exact HB.out)) hb); clear BK251; clear BK252; clear HB; have BK251 := n0_; have BK252 := n1_; have HB := n2_; clear n0_ n1_ n2_; (try clear hb); (try clear hb2); (try clear hk); (try clear hi)))
          repeat (go_quiet (first | (go_at_call 18; (with_reducible refine (frankinglaw15_Same.calls k a0_2 _ _ l0_3 a0_4 a0_5 a0_6 a1_2 _ _ l1_3 a1_4 a1_5 a1_6 false _ ?side1 ?side2 ?side3 ?side4 A8.out).mono ?_); (case side1 => repeat (first | exact (Kd.C_below HR0_3.out HB.out) | (with_reducible refine Kd.C_alloc ?_ _) | (with_reducible refine Kd.C_drewN ?_ _) | (with_reducible refine Kd.C_drew ?_))); (case side2 => exact HC0_3.out); (case side3 => repeat (first | exact (Kd.C_below HR1_3.out HB.out) | (with_reducible refine Kd.C_alloc ?_ _) | (with_reducible refine Kd.C_drewN ?_ _) | (with_reducible refine Kd.C_drew ?_))); (case side4 => exact HC1_3.out); rintro e w19 ⟨rfl, hb⟩; have n0_ := Aside0.mk (blk_below (g := gb251) (o := .cells #[.int .u8 a0_0, .string a0_1, .bool a0_2, .slice A0_3 l0_3.length c0_3, .string a0_4, .string a0_5, .bool a0_6, .slice A0_7 l0_7.length c0_7] 35 (0, 0)) (by (with_reducible repeat (first | refine blk_drewN ?_ _ | refine blk_drew ?_ | refine blk_alloc ?_ _)); exact BK251.out) hb); have n1_ := Aside0.mk (blk_below (g := gb252) (o := .cells #[.int .u8 a1_0, .string a1_1, .bool a1_2, .slice A1_3 l1_3.length c1_3, .string a1_4, .string a1_5, .bool a1_6, .slice A1_7 l1_7.length c1_7] 35 (0, 0)) (by (with_reducible repeat (first | refine blk_drewN ?_ _ | refine blk_drew ?_ | refine blk_alloc ?_ _)); exact BK252.out) hb); have n2_ := Aside0.mk (below_step (by repeat (first | (with_reducible first | exact HB.out | apply below_alloc | apply pw_below_drewN | apply below_drew1 | refine below_set ?_ GE251.out | refine below_set ?_ GE252.out) | exact HB.out)) hb); clear BK251; clear BK252; clear HB; have BK251 := n0_; have BK252 := n1_; have HB := n2_; clear n0_ n1_ n2_; (try clear hb); (try clear hb2); (try clear hk); (try clear hi))); try go_wp2_with (first | (go_at_call 18; (with_reducible refine (frankinglaw15_Same.calls k a0_2 _ _ l0_3 a0_4 a0_5 a0_6 a1_2 _ _ l1_3 a1_4 a1_5 a1_6 false _ ?side1 ?side2 ?side3 ?side4 A8.out).mono ?_); (case side1 => repeat (first | exact (Kd.C_below HR0_3.out HB.out) | (with_reducible refine Kd.C_alloc ?_ _) | (with_reducible refine Kd.C_drewN ?_ _) | (with_reducible refine Kd.C_drew ?_))); (case side2 => exact HC0_3.out); (case side3 => repeat (first | exact (Kd.C_below HR1_3.out HB.out) | (with_reducible refine Kd.C_alloc ?_ _) | (with_reducible refine Kd.C_drewN ?_ _) | (with_reducible refine Kd.C_drew ?_))); (case side4 => exact HC1_3.out); rintro e w19 ⟨rfl, hb⟩; have n0_ := Aside0.mk (blk_below (g := gb251) (o := .cells #[.int .u8 a0_0, .string a0_1, .bool a0_2, .slice A0_3 l0_3.length c0_3, .string a0_4, .string a0_5, .bool a0_6, .slice A0_7 l0_7.length c0_7] 35 (0, 0)) (by (with_reducible repeat (first | refine blk_drewN ?_ _ | refine blk_drew ?_ | refine blk_alloc ?_ _)); exact BK251.out) hb); have n1_ := Aside0.mk (blk_below (g := gb252) (o := .cells #[.int .u8 a1_0, .string a1_1, .bool a1_2, .slice A1_3 l1_3.length c1_3, .string a1_4, .string a1_5, .bool a1_6, .slice A1_7 l1_7.length c1_7] 35 (0, 0)) (by (with_reducible repeat (first | refine blk_drewN ?_ _ | refine blk_drew ?_ | refine blk_alloc ?_ _)); exact BK252.out) hb); have n2_ := Aside0.mk (below_step (by repeat (first | (with_reducible first | exact HB.out | apply below_alloc | apply pw_below_drewN | apply below_drew1 | refine below_set ?_ GE251.out | refine below_set ?_ GE252.out) | exact HB.out)) hb); clear BK251; clear BK252; clear HB; have BK251 := n0_; have BK252 := n1_; have HB := n2_; clear n0_ n1_ n2_; (try clear hb); (try clear hb2); (try clear hk); (try clear hi))))
          go_meet
          case rel => exact ⟨_, (true), (by first | rfl | (simp; done) | (simp [*]; done)), H', ⟨by first | omega | exact Nat.le_refl _⟩, ⟨by (with_reducible repeat (first | refine blk_drewN ?_ _ | refine blk_drew ?_ | refine blk_alloc ?_ _)); exact BK251.out⟩, ⟨by (with_reducible repeat (first | refine blk_drewN ?_ _ | refine blk_drew ?_ | refine blk_alloc ?_ _)); exact BK252.out⟩, ⟨by repeat (first | (with_reducible first | exact HB.out | apply below_alloc | apply pw_below_drewN | apply below_drew1 | refine below_set ?_ GE251.out | refine below_set ?_ GE252.out) | exact HB.out)⟩⟩
      · rw [if_neg c7] at H
        have c7b0 : (a0_1.toList == a1_1.toList) = false := beq_eq_false_iff_ne.mpr c7
        have c7b1 : (a0_1.toList != a1_1.toList) = true := bne_iff_ne.mpr c7
        have H' := Aside0.mk H
        clear H
        have hnb20 := NB251_252.out
        have hnc20 := NB252_251.out
        have hcz21_0 : w5.cell? ⟨gb251, 0, none⟩ = some (.int .u8 a0_0) := (blk_cell BK251.out 0).trans rfl
        have hcz21_1 : w5.cell? ⟨gb251, 1, none⟩ = some (.string a0_1) := (blk_cell BK251.out 1).trans rfl
        have hcz21_2 : w5.cell? ⟨gb251, 2, none⟩ = some (.bool a0_2) := (blk_cell BK251.out 2).trans rfl
        have hcz21_3 : w5.cell? ⟨gb251, 3, none⟩ = some (.slice A0_3 l0_3.length c0_3) := (blk_cell BK251.out 3).trans rfl
        have hcz21_4 : w5.cell? ⟨gb251, 4, none⟩ = some (.string a0_4) := (blk_cell BK251.out 4).trans rfl
        have hcz21_5 : w5.cell? ⟨gb251, 5, none⟩ = some (.string a0_5) := (blk_cell BK251.out 5).trans rfl
        have hcz21_6 : w5.cell? ⟨gb251, 6, none⟩ = some (.bool a0_6) := (blk_cell BK251.out 6).trans rfl
        have hcz21_7 : w5.cell? ⟨gb251, 7, none⟩ = some (.slice A0_7 l0_7.length c0_7) := (blk_cell BK251.out 7).trans rfl
        have hfz21_0 := blk_frozen BK251.out 0
        have hfz21_1 := blk_frozen BK251.out 1
        have hfz21_2 := blk_frozen BK251.out 2
        have hfz21_3 := blk_frozen BK251.out 3
        have hfz21_4 := blk_frozen BK251.out 4
        have hfz21_5 := blk_frozen BK251.out 5
        have hfz21_6 := blk_frozen BK251.out 6
        have hfz21_7 := blk_frozen BK251.out 7
        have hcz22_0 : w5.cell? ⟨gb252, 0, none⟩ = some (.int .u8 a1_0) := (blk_cell BK252.out 0).trans rfl
        have hcz22_1 : w5.cell? ⟨gb252, 1, none⟩ = some (.string a1_1) := (blk_cell BK252.out 1).trans rfl
        have hcz22_2 : w5.cell? ⟨gb252, 2, none⟩ = some (.bool a1_2) := (blk_cell BK252.out 2).trans rfl
        have hcz22_3 : w5.cell? ⟨gb252, 3, none⟩ = some (.slice A1_3 l1_3.length c1_3) := (blk_cell BK252.out 3).trans rfl
        have hcz22_4 : w5.cell? ⟨gb252, 4, none⟩ = some (.string a1_4) := (blk_cell BK252.out 4).trans rfl
        have hcz22_5 : w5.cell? ⟨gb252, 5, none⟩ = some (.string a1_5) := (blk_cell BK252.out 5).trans rfl
        have hcz22_6 : w5.cell? ⟨gb252, 6, none⟩ = some (.bool a1_6) := (blk_cell BK252.out 6).trans rfl
        have hcz22_7 : w5.cell? ⟨gb252, 7, none⟩ = some (.slice A1_7 l1_7.length c1_7) := (blk_cell BK252.out 7).trans rfl
        have hfz22_0 := blk_frozen BK252.out 0
        have hfz22_1 := blk_frozen BK252.out 1
        have hfz22_2 := blk_frozen BK252.out 2
        have hfz22_3 := blk_frozen BK252.out 3
        have hfz22_4 := blk_frozen BK252.out 4
        have hfz22_5 := blk_frozen BK252.out 5
        have hfz22_6 := blk_frozen BK252.out 6
        have hfz22_7 := blk_frozen BK252.out 7
        go_wp2
        repeat (go_quiet (fail); try go_wp2)
        go_meet
        case rel => exact ⟨_, (true), (by first | rfl | (simp; done) | (simp [*]; done)), H', ⟨by first | omega | exact Nat.le_refl _⟩, ⟨by (with_reducible repeat (first | refine blk_drewN ?_ _ | refine blk_drew ?_ | refine blk_alloc ?_ _)); exact BK251.out⟩, ⟨by (with_reducible repeat (first | refine blk_drewN ?_ _ | refine blk_drew ?_ | refine blk_alloc ?_ _)); exact BK252.out⟩, ⟨by repeat (first | (with_reducible first | exact HB.out | apply below_alloc | apply pw_below_drewN | apply below_drew1 | refine below_set ?_ GE251.out | refine below_set ?_ GE252.out) | exact HB.out)⟩⟩
    · rw [if_neg c6] at H
      have c6b0 : (a0_0 == a1_0) = false := beq_eq_false_iff_ne.mpr c6
      have c6b1 : (a0_0 != a1_0) = true := bne_iff_ne.mpr c6
      (first | rw [c6b0] | (simp only [i64_w, i32_w]; rw [c6b0]) | skip)
      have H' := Aside0.mk H
      clear H
      have hnb23 := NB251_252.out
      have hnc23 := NB252_251.out
      have hcz24_0 : w5.cell? ⟨gb251, 0, none⟩ = some (.int .u8 a0_0) := (blk_cell BK251.out 0).trans rfl
      have hcz24_1 : w5.cell? ⟨gb251, 1, none⟩ = some (.string a0_1) := (blk_cell BK251.out 1).trans rfl
      have hcz24_2 : w5.cell? ⟨gb251, 2, none⟩ = some (.bool a0_2) := (blk_cell BK251.out 2).trans rfl
      have hcz24_3 : w5.cell? ⟨gb251, 3, none⟩ = some (.slice A0_3 l0_3.length c0_3) := (blk_cell BK251.out 3).trans rfl
      have hcz24_4 : w5.cell? ⟨gb251, 4, none⟩ = some (.string a0_4) := (blk_cell BK251.out 4).trans rfl
      have hcz24_5 : w5.cell? ⟨gb251, 5, none⟩ = some (.string a0_5) := (blk_cell BK251.out 5).trans rfl
      have hcz24_6 : w5.cell? ⟨gb251, 6, none⟩ = some (.bool a0_6) := (blk_cell BK251.out 6).trans rfl
      have hcz24_7 : w5.cell? ⟨gb251, 7, none⟩ = some (.slice A0_7 l0_7.length c0_7) := (blk_cell BK251.out 7).trans rfl
      have hfz24_0 := blk_frozen BK251.out 0
      have hfz24_1 := blk_frozen BK251.out 1
      have hfz24_2 := blk_frozen BK251.out 2
      have hfz24_3 := blk_frozen BK251.out 3
      have hfz24_4 := blk_frozen BK251.out 4
      have hfz24_5 := blk_frozen BK251.out 5
      have hfz24_6 := blk_frozen BK251.out 6
      have hfz24_7 := blk_frozen BK251.out 7
      have hcz25_0 : w5.cell? ⟨gb252, 0, none⟩ = some (.int .u8 a1_0) := (blk_cell BK252.out 0).trans rfl
      have hcz25_1 : w5.cell? ⟨gb252, 1, none⟩ = some (.string a1_1) := (blk_cell BK252.out 1).trans rfl
      have hcz25_2 : w5.cell? ⟨gb252, 2, none⟩ = some (.bool a1_2) := (blk_cell BK252.out 2).trans rfl
      have hcz25_3 : w5.cell? ⟨gb252, 3, none⟩ = some (.slice A1_3 l1_3.length c1_3) := (blk_cell BK252.out 3).trans rfl
      have hcz25_4 : w5.cell? ⟨gb252, 4, none⟩ = some (.string a1_4) := (blk_cell BK252.out 4).trans rfl
      have hcz25_5 : w5.cell? ⟨gb252, 5, none⟩ = some (.string a1_5) := (blk_cell BK252.out 5).trans rfl
      have hcz25_6 : w5.cell? ⟨gb252, 6, none⟩ = some (.bool a1_6) := (blk_cell BK252.out 6).trans rfl
      have hcz25_7 : w5.cell? ⟨gb252, 7, none⟩ = some (.slice A1_7 l1_7.length c1_7) := (blk_cell BK252.out 7).trans rfl
      have hfz25_0 := blk_frozen BK252.out 0
      have hfz25_1 := blk_frozen BK252.out 1
      have hfz25_2 := blk_frozen BK252.out 2
      have hfz25_3 := blk_frozen BK252.out 3
      have hfz25_4 := blk_frozen BK252.out 4
      have hfz25_5 := blk_frozen BK252.out 5
      have hfz25_6 := blk_frozen BK252.out 6
      have hfz25_7 := blk_frozen BK252.out 7
      go_wp2
      repeat (go_quiet (fail); try go_wp2)
      go_meet
      case rel => exact ⟨_, (true), (by first | rfl | (simp; done) | (simp [*]; done)), H', ⟨by first | omega | exact Nat.le_refl _⟩, ⟨by (with_reducible repeat (first | refine blk_drewN ?_ _ | refine blk_drew ?_ | refine blk_alloc ?_ _)); exact BK251.out⟩, ⟨by (with_reducible repeat (first | refine blk_drewN ?_ _ | refine blk_drew ?_ | refine blk_alloc ?_ _)); exact BK252.out⟩, ⟨by repeat (first | (with_reducible first | exact HB.out | apply below_alloc | apply pw_below_drewN | apply below_drew1 | refine below_set ?_ GE251.out | refine below_set ?_ GE252.out) | exact HB.out)⟩⟩
  case rest =>
    clear HC3
    try clear c1
    try clear c2
    try clear p2
    try clear c3
    try clear c6
    try clear c6b0
    try clear c6b1
    try clear c7
    try clear c7b0
    try clear c7b1
    try clear c9
    try clear c10
    try clear c16
    try clear c20
    try clear c23
    try clear hcz11_0
    try clear hcz11_1
    try clear hcz11_2
    try clear hcz11_3
    try clear hcz11_4
    try clear hcz11_5
    try clear hcz11_6
    try clear hcz11_7
    try clear hcz12_0
    try clear hcz12_1
    try clear hcz12_2
    try clear hcz12_3
    try clear hcz12_4
    try clear hcz12_5
    try clear hcz12_6
    try clear hcz12_7
    try clear hcz14_0
    try clear hcz14_1
    try clear hcz14_2
    try clear hcz14_3
    try clear hcz14_4
    try clear hcz14_5
    try clear hcz14_6
    try clear hcz14_7
    try clear hcz15_0
    try clear hcz15_1
    try clear hcz15_2
    try clear hcz15_3
    try clear hcz15_4
    try clear hcz15_5
    try clear hcz15_6
    try clear hcz15_7
    try clear hcz17_0
    try clear hcz17_1
    try clear hcz17_2
    try clear hcz17_3
    try clear hcz17_4
    try clear hcz17_5
    try clear hcz17_6
    try clear hcz17_7
    try clear hcz18_0
    try clear hcz18_1
    try clear hcz18_2
    try clear hcz18_3
    try clear hcz18_4
    try clear hcz18_5
    try clear hcz18_6
    try clear hcz18_7
    try clear hcz21_0
    try clear hcz21_1
    try clear hcz21_2
    try clear hcz21_3
    try clear hcz21_4
    try clear hcz21_5
    try clear hcz21_6
    try clear hcz21_7
    try clear hcz22_0
    try clear hcz22_1
    try clear hcz22_2
    try clear hcz22_3
    try clear hcz22_4
    try clear hcz22_5
    try clear hcz22_6
    try clear hcz22_7
    try clear hcz24_0
    try clear hcz24_1
    try clear hcz24_2
    try clear hcz24_3
    try clear hcz24_4
    try clear hcz24_5
    try clear hcz24_6
    try clear hcz24_7
    try clear hcz25_0
    try clear hcz25_1
    try clear hcz25_2
    try clear hcz25_3
    try clear hcz25_4
    try clear hcz25_5
    try clear hcz25_6
    try clear hcz25_7
    try clear hfz11_0
    try clear hfz11_1
    try clear hfz11_2
    try clear hfz11_3
    try clear hfz11_4
    try clear hfz11_5
    try clear hfz11_6
    try clear hfz11_7
    try clear hfz12_0
    try clear hfz12_1
    try clear hfz12_2
    try clear hfz12_3
    try clear hfz12_4
    try clear hfz12_5
    try clear hfz12_6
    try clear hfz12_7
    try clear hfz14_0
    try clear hfz14_1
    try clear hfz14_2
    try clear hfz14_3
    try clear hfz14_4
    try clear hfz14_5
    try clear hfz14_6
    try clear hfz14_7
    try clear hfz15_0
    try clear hfz15_1
    try clear hfz15_2
    try clear hfz15_3
    try clear hfz15_4
    try clear hfz15_5
    try clear hfz15_6
    try clear hfz15_7
    try clear hfz17_0
    try clear hfz17_1
    try clear hfz17_2
    try clear hfz17_3
    try clear hfz17_4
    try clear hfz17_5
    try clear hfz17_6
    try clear hfz17_7
    try clear hfz18_0
    try clear hfz18_1
    try clear hfz18_2
    try clear hfz18_3
    try clear hfz18_4
    try clear hfz18_5
    try clear hfz18_6
    try clear hfz18_7
    try clear hfz21_0
    try clear hfz21_1
    try clear hfz21_2
    try clear hfz21_3
    try clear hfz21_4
    try clear hfz21_5
    try clear hfz21_6
    try clear hfz21_7
    try clear hfz22_0
    try clear hfz22_1
    try clear hfz22_2
    try clear hfz22_3
    try clear hfz22_4
    try clear hfz22_5
    try clear hfz22_6
    try clear hfz22_7
    try clear hfz24_0
    try clear hfz24_1
    try clear hfz24_2
    try clear hfz24_3
    try clear hfz24_4
    try clear hfz24_5
    try clear hfz24_6
    try clear hfz24_7
    try clear hfz25_0
    try clear hfz25_1
    try clear hfz25_2
    try clear hfz25_3
    try clear hfz25_4
    try clear hfz25_5
    try clear hfz25_6
    try clear hfz25_7
    obtain ⟨kq, x34_2, rfl, HA, HJ2, BK251, BK252, HB⟩ := hcut
    cases kq with
    | zero => exact absurd HA.out (by simp [frankinglaw16_Same.j0])
    | succ kj2 =>
      have H := HA.out
      clear HA
      simp only [frankinglaw16_Same.j0] at H
      by_cases c26 : x34_2 = true
      · subst c26
        have H1 : (some false) = some r := by rw [if_pos rfl] at H; exact H
        clear H
        have H := H1
        clear H1
        obtain rfl := Option.some.inj H
        go_wp2
        repeat (go_quiet (fail); try go_wp2)
        go_ret
        exact ⟨by first | rfl | (simp [errW_none, errW_some] <;> rfl) | (simp [*, errW_none, errW_some] <;> rfl), by repeat (first | (with_reducible first | exact HB.out | apply below_alloc | apply pw_below_drewN | apply below_drew1 | refine below_set ?_ GE251.out | refine below_set ?_ GE252.out) | exact HB.out)⟩
      · replace c26 := Bool.eq_false_iff.mpr c26
        subst c26
        have H1 : (frankinglaw16_Same.l0 kj2 (l0_7.length : Int) 0 a0_0 a0_1 a0_2 l0_3 a0_4 a0_5 a0_6 l0_7 a1_0 a1_1 a1_2 l1_3 a1_4 a1_5 a1_6 l1_7) = some r := by rw [if_neg (show ¬ (false = true) by decide)] at H; exact H
        clear H
        have H := H1
        clear H1
        have H' := Aside0.mk H
        clear H
        have hnb27 := NB251_252.out
        have hnc27 := NB252_251.out
        have hcz28_0 : wc.cell? ⟨gb251, 0, none⟩ = some (.int .u8 a0_0) := (blk_cell BK251.out 0).trans rfl
        have hcz28_1 : wc.cell? ⟨gb251, 1, none⟩ = some (.string a0_1) := (blk_cell BK251.out 1).trans rfl
        have hcz28_2 : wc.cell? ⟨gb251, 2, none⟩ = some (.bool a0_2) := (blk_cell BK251.out 2).trans rfl
        have hcz28_3 : wc.cell? ⟨gb251, 3, none⟩ = some (.slice A0_3 l0_3.length c0_3) := (blk_cell BK251.out 3).trans rfl
        have hcz28_4 : wc.cell? ⟨gb251, 4, none⟩ = some (.string a0_4) := (blk_cell BK251.out 4).trans rfl
        have hcz28_5 : wc.cell? ⟨gb251, 5, none⟩ = some (.string a0_5) := (blk_cell BK251.out 5).trans rfl
        have hcz28_6 : wc.cell? ⟨gb251, 6, none⟩ = some (.bool a0_6) := (blk_cell BK251.out 6).trans rfl
        have hcz28_7 : wc.cell? ⟨gb251, 7, none⟩ = some (.slice A0_7 l0_7.length c0_7) := (blk_cell BK251.out 7).trans rfl
        have hfz28_0 := blk_frozen BK251.out 0
        have hfz28_1 := blk_frozen BK251.out 1
        have hfz28_2 := blk_frozen BK251.out 2
        have hfz28_3 := blk_frozen BK251.out 3
        have hfz28_4 := blk_frozen BK251.out 4
        have hfz28_5 := blk_frozen BK251.out 5
        have hfz28_6 := blk_frozen BK251.out 6
        have hfz28_7 := blk_frozen BK251.out 7
        go_wp2
        repeat (go_quiet (fail); try go_wp2)
        go_loopg [38] kj2 (fun kq v38 w' => ∃ (x38_2 : Int), v38 = .int .i64 x38_2 ∧ Aside0 (frankinglaw16_Same.l0 kq (l0_7.length : Int) x38_2 a0_0 a0_1 a0_2 l0_3 a0_4 a0_5 a0_6 l0_7 a1_0 a1_1 a1_2 l1_3 a1_4 a1_5 a1_6 l1_7 = some r) ∧ Aside0 (kq ≤ kj2) ∧ Aside0 (w'.heap[gb251]? = some (.cells #[.int .u8 a0_0, .string a0_1, .bool a0_2, (.slice A0_3 l0_3.length c0_3), .string a0_4, .string a0_5, .bool a0_6, (.slice A0_7 l0_7.length c0_7)] 35 (0, 0))) ∧ Aside0 (w'.heap[gb252]? = some (.cells #[.int .u8 a1_0, .string a1_1, .bool a1_2, (.slice A1_3 l1_3.length c1_3), .string a1_4, .string a1_5, .bool a1_6, (.slice A1_7 l1_7.length c1_7)] 35 (0, 0))) ∧ Aside0 (Below w.heap.size w w'))
        case atStart => exact ⟨(0), (by first | rfl | (simp; done) | (simp [*]; done)), H', ⟨Nat.le_refl _⟩, ⟨by (with_reducible repeat (first | refine blk_drewN ?_ _ | refine blk_drew ?_ | refine blk_alloc ?_ _)); exact BK251.out⟩, ⟨by (with_reducible repeat (first | refine blk_drewN ?_ _ | refine blk_drew ?_ | refine blk_alloc ?_ _)); exact BK252.out⟩, ⟨by repeat (first | (with_reducible first | exact HB.out | apply below_alloc | apply pw_below_drewN | apply below_drew1 | refine below_set ?_ GE251.out | refine below_set ?_ GE252.out) | exact HB.out)⟩⟩
        case round =>
          clear H'
          try clear c1
          try clear c2
          try clear p2
          try clear c3
          try clear c6
          try clear c6b0
          try clear c6b1
          try clear c7
          try clear c7b0
          try clear c7b1
          try clear c9
          try clear c10
          try clear c16
          try clear c20
          try clear c23
          try clear c26
          try clear c27
          try clear hcz11_0
          try clear hcz11_1
          try clear hcz11_2
          try clear hcz11_3
          try clear hcz11_4
          try clear hcz11_5
          try clear hcz11_6
          try clear hcz11_7
          try clear hcz12_0
          try clear hcz12_1
          try clear hcz12_2
          try clear hcz12_3
          try clear hcz12_4
          try clear hcz12_5
          try clear hcz12_6
          try clear hcz12_7
          try clear hcz14_0
          try clear hcz14_1
          try clear hcz14_2
          try clear hcz14_3
          try clear hcz14_4
          try clear hcz14_5
          try clear hcz14_6
          try clear hcz14_7
          try clear hcz15_0
          try clear hcz15_1
          try clear hcz15_2
          try clear hcz15_3
          try clear hcz15_4
          try clear hcz15_5
          try clear hcz15_6
          try clear hcz15_7
          try clear hcz17_0
          try clear hcz17_1
          try clear hcz17_2
          try clear hcz17_3
          try clear hcz17_4
          try clear hcz17_5
          try clear hcz17_6
          try clear hcz17_7
          try clear hcz18_0
          try clear hcz18_1
          try clear hcz18_2
          try clear hcz18_3
          try clear hcz18_4
          try clear hcz18_5
          try clear hcz18_6
          try clear hcz18_7
          try clear hcz21_0
          try clear hcz21_1
          try clear hcz21_2
          try clear hcz21_3
          try clear hcz21_4
          try clear hcz21_5
          try clear hcz21_6
          try clear hcz21_7
          try clear hcz22_0
          try clear hcz22_1
          try clear hcz22_2
          try clear hcz22_3
          try clear hcz22_4
          try clear hcz22_5
          try clear hcz22_6
          try clear hcz22_7
          try clear hcz24_0
          try clear hcz24_1
          try clear hcz24_2
          try clear hcz24_3
          try clear hcz24_4
          try clear hcz24_5
          try clear hcz24_6
          try clear hcz24_7
          try clear hcz25_0
          try clear hcz25_1
          try clear hcz25_2
          try clear hcz25_3
          try clear hcz25_4
          try clear hcz25_5
          try clear hcz25_6
          try clear hcz25_7
          try clear hcz28_0
          try clear hcz28_1
          try clear hcz28_2
          try clear hcz28_3
          try clear hcz28_4
          try clear hcz28_5
          try clear hcz28_6
          try clear hcz28_7
          try clear hfz11_0
          try clear hfz11_1
          try clear hfz11_2
          try clear hfz11_3
          try clear hfz11_4
          try clear hfz11_5
          try clear hfz11_6
          try clear hfz11_7
          try clear hfz12_0
          try clear hfz12_1
          try clear hfz12_2
          try clear hfz12_3
          try clear hfz12_4
          try clear hfz12_5
          try clear hfz12_6
          try clear hfz12_7
          try clear hfz14_0
          try clear hfz14_1
          try clear hfz14_2
          try clear hfz14_3
          try clear hfz14_4
          try clear hfz14_5
          try clear hfz14_6
          try clear hfz14_7
          try clear hfz15_0
          try clear hfz15_1
          try clear hfz15_2
          try clear hfz15_3
          try clear hfz15_4
          try clear hfz15_5
          try clear hfz15_6
          try clear hfz15_7
          try clear hfz17_0
          try clear hfz17_1
          try clear hfz17_2
          try clear hfz17_3
          try clear hfz17_4
          try clear hfz17_5
          try clear hfz17_6
          try clear hfz17_7
          try clear hfz18_0
          try clear hfz18_1
          try clear hfz18_2
          try clear hfz18_3
          try clear hfz18_4
          try clear hfz18_5
          try clear hfz18_6
          try clear hfz18_7
          try clear hfz21_0
          try clear hfz21_1
          try clear hfz21_2
          try clear hfz21_3
          try clear hfz21_4
          try clear hfz21_5
          try clear hfz21_6
          try clear hfz21_7
          try clear hfz22_0
          try clear hfz22_1
          try clear hfz22_2
          try clear hfz22_3
          try clear hfz22_4
          try clear hfz22_5
          try clear hfz22_6
          try clear hfz22_7
          try clear hfz24_0
          try clear hfz24_1
          try clear hfz24_2
          try clear hfz24_3
          try clear hfz24_4
          try clear hfz24_5
          try clear hfz24_6
          try clear hfz24_7
          try clear hfz25_0
          try clear hfz25_1
          try clear hfz25_2
          try clear hfz25_3
          try clear hfz25_4
          try clear hfz25_5
          try clear hfz25_6
          try clear hfz25_7
          try clear hfz28_0
          try clear hfz28_1
          try clear hfz28_2
          try clear hfz28_3
          try clear hfz28_4
          try clear hfz28_5
          try clear hfz28_6
          try clear hfz28_7
          try clear p2
          obtain ⟨x38_2, rfl, HA, HK2, BK251, BK252, HB⟩ := hrel
          cases gk with
          | zero => exact absurd HA.out (by simp [frankinglaw16_Same.l0])
          | succ k2 =>
            have H := HA.out
            clear HA
            simp only [frankinglaw16_Same.l0] at H
            by_cases c29 : x38_2 < (l0_7.length : Int)
            · rw [if_pos c29] at H
              have c29b0 : decide (x38_2 < (l0_7.length : Int)) = true := decide_eq_true c29
              clear c29
              by_cases c30 : 0 ≤ x38_2
              · rw [if_pos c30] at H
                have c30b0 : decide (0 ≤ x38_2) = true := decide_eq_true c30
                clear c30
                by_cases c31 : x38_2 < (l0_7.length : Int)
                · rw [if_pos c31] at H
                  have c31b0 : decide (x38_2 < (l0_7.length : Int)) = true := decide_eq_true c31
                  clear c31
                  by_cases c32 : x38_2 < (l1_7.length : Int)
                  · rw [if_pos c32] at H
                    have c32b0 : decide (x38_2 < (l1_7.length : Int)) = true := decide_eq_true c32
                    clear c32
                    by_cases c33 : (!((((rd_T58 l0_7 x38_2).f0).toList) == (((rd_T58 l1_7 x38_2).f0).toList)) || (!((((rd_T58 l0_7 x38_2).f1).toList) == (((rd_T58 l1_7 x38_2).f1).toList)) || (!(((rd_T58 l0_7 x38_2).f2) == ((rd_T58 l1_7 x38_2).f2))))) = true
                    · rw [if_pos c33] at H
                      have c33b0 : (!((((rd_T58 l0_7 x38_2).f0).toList) == (((rd_T58 l1_7 x38_2).f0).toList)) || (!((((rd_T58 l0_7 x38_2).f1).toList) == (((rd_T58 l1_7 x38_2).f1).toList)) || (!(((rd_T58 l0_7 x38_2).f2) == ((rd_T58 l1_7 x38_2).f2))))) = true := c33
                      clear c33
                      obtain rfl := Option.some.inj H
                      have hnb34 := NB251_252.out
                      have hnc34 := NB252_251.out
                      have hcz35_0 : wr.cell? ⟨gb251, 0, none⟩ = some (.int .u8 a0_0) := (blk_cell BK251.out 0).trans rfl
                      have hcz35_1 : wr.cell? ⟨gb251, 1, none⟩ = some (.string a0_1) := (blk_cell BK251.out 1).trans rfl
                      have hcz35_2 : wr.cell? ⟨gb251, 2, none⟩ = some (.bool a0_2) := (blk_cell BK251.out 2).trans rfl
                      have hcz35_3 : wr.cell? ⟨gb251, 3, none⟩ = some (.slice A0_3 l0_3.length c0_3) := (blk_cell BK251.out 3).trans rfl
                      have hcz35_4 : wr.cell? ⟨gb251, 4, none⟩ = some (.string a0_4) := (blk_cell BK251.out 4).trans rfl
                      have hcz35_5 : wr.cell? ⟨gb251, 5, none⟩ = some (.string a0_5) := (blk_cell BK251.out 5).trans rfl
                      have hcz35_6 : wr.cell? ⟨gb251, 6, none⟩ = some (.bool a0_6) := (blk_cell BK251.out 6).trans rfl
                      have hcz35_7 : wr.cell? ⟨gb251, 7, none⟩ = some (.slice A0_7 l0_7.length c0_7) := (blk_cell BK251.out 7).trans rfl
                      have hfz35_0 := blk_frozen BK251.out 0
                      have hfz35_1 := blk_frozen BK251.out 1
                      have hfz35_2 := blk_frozen BK251.out 2
                      have hfz35_3 := blk_frozen BK251.out 3
                      have hfz35_4 := blk_frozen BK251.out 4
                      have hfz35_5 := blk_frozen BK251.out 5
                      have hfz35_6 := blk_frozen BK251.out 6
                      have hfz35_7 := blk_frozen BK251.out 7
                      have p254 : 0 ≤ (x38_2 : Int) := of_decide_eq_true (by first | (with_reducible assumption) | assumption)
                      have q254 : x38_2 < (l0_7.length : Int) := of_decide_eq_true (by first | (with_reducible assumption) | assumption)
                      obtain ⟨ad254, e254, hx254_0, hx254_1, hx254_2⟩ := at_T58 HR0_7.out x38_2 p254 q254
                      cases e254
                      replace hx254_0 := (HB.out.cell (World.block_lt_of_cell? w _ hx254_0)).trans hx254_0
                      replace hx254_1 := (HB.out.cell (World.block_lt_of_cell? w _ hx254_1)).trans hx254_1
                      replace hx254_2 := (HB.out.cell (World.block_lt_of_cell? w _ hx254_2)).trans hx254_2
                      replace p254 := eq_true p254
                      replace q254 := eq_true q254
                      have hcz36_0 : wr.cell? ⟨gb252, 0, none⟩ = some (.int .u8 a1_0) := (blk_cell BK252.out 0).trans rfl
                      have hcz36_1 : wr.cell? ⟨gb252, 1, none⟩ = some (.string a1_1) := (blk_cell BK252.out 1).trans rfl
                      have hcz36_2 : wr.cell? ⟨gb252, 2, none⟩ = some (.bool a1_2) := (blk_cell BK252.out 2).trans rfl
                      have hcz36_3 : wr.cell? ⟨gb252, 3, none⟩ = some (.slice A1_3 l1_3.length c1_3) := (blk_cell BK252.out 3).trans rfl
                      have hcz36_4 : wr.cell? ⟨gb252, 4, none⟩ = some (.string a1_4) := (blk_cell BK252.out 4).trans rfl
                      have hcz36_5 : wr.cell? ⟨gb252, 5, none⟩ = some (.string a1_5) := (blk_cell BK252.out 5).trans rfl
                      have hcz36_6 : wr.cell? ⟨gb252, 6, none⟩ = some (.bool a1_6) := (blk_cell BK252.out 6).trans rfl
                      have hcz36_7 : wr.cell? ⟨gb252, 7, none⟩ = some (.slice A1_7 l1_7.length c1_7) := (blk_cell BK252.out 7).trans rfl
                      have hfz36_0 := blk_frozen BK252.out 0
                      have hfz36_1 := blk_frozen BK252.out 1
                      have hfz36_2 := blk_frozen BK252.out 2
                      have hfz36_3 := blk_frozen BK252.out 3
                      have hfz36_4 := blk_frozen BK252.out 4
                      have hfz36_5 := blk_frozen BK252.out 5
                      have hfz36_6 := blk_frozen BK252.out 6
                      have hfz36_7 := blk_frozen BK252.out 7
                      have p255 : 0 ≤ (x38_2 : Int) := of_decide_eq_true (by first | (with_reducible assumption) | assumption)
                      have q255 : x38_2 < (l1_7.length : Int) := of_decide_eq_true (by first | (with_reducible assumption) | assumption)
                      obtain ⟨ad255, e255, hx255_0, hx255_1, hx255_2⟩ := at_T58 HR1_7.out x38_2 p255 q255
                      cases e255
                      replace hx255_0 := (HB.out.cell (World.block_lt_of_cell? w _ hx255_0)).trans hx255_0
                      replace hx255_1 := (HB.out.cell (World.block_lt_of_cell? w _ hx255_1)).trans hx255_1
                      replace hx255_2 := (HB.out.cell (World.block_lt_of_cell? w _ hx255_2)).trans hx255_2
                      replace p255 := eq_true p255
                      replace q255 := eq_true q255
                      go_wp2
                      repeat (go_quiet (fail); try go_wp2)
                      go_ret
                      exact ⟨by first | rfl | (simp [errW_none, errW_some] <;> rfl) | (simp [*, errW_none, errW_some] <;> rfl), by repeat (first | (with_reducible first | exact HB.out | apply below_alloc | apply pw_below_drewN | apply below_drew1 | refine below_set ?_ GE251.out | refine below_set ?_ GE252.out) | exact HB.out)⟩
                    · rw [if_neg c33] at H
                      have c33b0 : (!((((rd_T58 l0_7 x38_2).f0).toList) == (((rd_T58 l1_7 x38_2).f0).toList)) || (!((((rd_T58 l0_7 x38_2).f1).toList) == (((rd_T58 l1_7 x38_2).f1).toList)) || (!(((rd_T58 l0_7 x38_2).f2) == ((rd_T58 l1_7 x38_2).f2))))) = false := by simpa using c33
                      clear c33
                      have H' := Aside0.mk H
                      clear H
                      have hnb37 := NB251_252.out
                      have hnc37 := NB252_251.out
                      have hcz38_0 : wr.cell? ⟨gb251, 0, none⟩ = some (.int .u8 a0_0) := (blk_cell BK251.out 0).trans rfl
                      have hcz38_1 : wr.cell? ⟨gb251, 1, none⟩ = some (.string a0_1) := (blk_cell BK251.out 1).trans rfl
                      have hcz38_2 : wr.cell? ⟨gb251, 2, none⟩ = some (.bool a0_2) := (blk_cell BK251.out 2).trans rfl
                      have hcz38_3 : wr.cell? ⟨gb251, 3, none⟩ = some (.slice A0_3 l0_3.length c0_3) := (blk_cell BK251.out 3).trans rfl
                      have hcz38_4 : wr.cell? ⟨gb251, 4, none⟩ = some (.string a0_4) := (blk_cell BK251.out 4).trans rfl
                      have hcz38_5 : wr.cell? ⟨gb251, 5, none⟩ = some (.string a0_5) := (blk_cell BK251.out 5).trans rfl
                      have hcz38_6 : wr.cell? ⟨gb251, 6, none⟩ = some (.bool a0_6) := (blk_cell BK251.out 6).trans rfl
                      have hcz38_7 : wr.cell? ⟨gb251, 7, none⟩ = some (.slice A0_7 l0_7.length c0_7) := (blk_cell BK251.out 7).trans rfl
                      have hfz38_0 := blk_frozen BK251.out 0
                      have hfz38_1 := blk_frozen BK251.out 1
                      have hfz38_2 := blk_frozen BK251.out 2
                      have hfz38_3 := blk_frozen BK251.out 3
                      have hfz38_4 := blk_frozen BK251.out 4
                      have hfz38_5 := blk_frozen BK251.out 5
                      have hfz38_6 := blk_frozen BK251.out 6
                      have hfz38_7 := blk_frozen BK251.out 7
                      have p254 : 0 ≤ (x38_2 : Int) := of_decide_eq_true (by first | (with_reducible assumption) | assumption)
                      have q254 : x38_2 < (l0_7.length : Int) := of_decide_eq_true (by first | (with_reducible assumption) | assumption)
                      obtain ⟨ad254, e254, hx254_0, hx254_1, hx254_2⟩ := at_T58 HR0_7.out x38_2 p254 q254
                      cases e254
                      replace hx254_0 := (HB.out.cell (World.block_lt_of_cell? w _ hx254_0)).trans hx254_0
                      replace hx254_1 := (HB.out.cell (World.block_lt_of_cell? w _ hx254_1)).trans hx254_1
                      replace hx254_2 := (HB.out.cell (World.block_lt_of_cell? w _ hx254_2)).trans hx254_2
                      replace p254 := eq_true p254
                      replace q254 := eq_true q254
                      have hcz39_0 : wr.cell? ⟨gb252, 0, none⟩ = some (.int .u8 a1_0) := (blk_cell BK252.out 0).trans rfl
                      have hcz39_1 : wr.cell? ⟨gb252, 1, none⟩ = some (.string a1_1) := (blk_cell BK252.out 1).trans rfl
                      have hcz39_2 : wr.cell? ⟨gb252, 2, none⟩ = some (.bool a1_2) := (blk_cell BK252.out 2).trans rfl
                      have hcz39_3 : wr.cell? ⟨gb252, 3, none⟩ = some (.slice A1_3 l1_3.length c1_3) := (blk_cell BK252.out 3).trans rfl
                      have hcz39_4 : wr.cell? ⟨gb252, 4, none⟩ = some (.string a1_4) := (blk_cell BK252.out 4).trans rfl
                      have hcz39_5 : wr.cell? ⟨gb252, 5, none⟩ = some (.string a1_5) := (blk_cell BK252.out 5).trans rfl
                      have hcz39_6 : wr.cell? ⟨gb252, 6, none⟩ = some (.bool a1_6) := (blk_cell BK252.out 6).trans rfl
                      have hcz39_7 : wr.cell? ⟨gb252, 7, none⟩ = some (.slice A1_7 l1_7.length c1_7) := (blk_cell BK252.out 7).trans rfl
                      have hfz39_0 := blk_frozen BK252.out 0
                      have hfz39_1 := blk_frozen BK252.out 1
                      have hfz39_2 := blk_frozen BK252.out 2
                      have hfz39_3 := blk_frozen BK252.out 3
                      have hfz39_4 := blk_frozen BK252.out 4
                      have hfz39_5 := blk_frozen BK252.out 5
                      have hfz39_6 := blk_frozen BK252.out 6
                      have hfz39_7 := blk_frozen BK252.out 7
                      have p255 : 0 ≤ (x38_2 : Int) := of_decide_eq_true (by first | (with_reducible assumption) | assumption)
                      have q255 : x38_2 < (l1_7.length : Int) := of_decide_eq_true (by first | (with_reducible assumption) | assumption)
                      obtain ⟨ad255, e255, hx255_0, hx255_1, hx255_2⟩ := at_T58 HR1_7.out x38_2 p255 q255
                      cases e255
                      replace hx255_0 := (HB.out.cell (World.block_lt_of_cell? w _ hx255_0)).trans hx255_0
                      replace hx255_1 := (HB.out.cell (World.block_lt_of_cell? w _ hx255_1)).trans hx255_1
                      replace hx255_2 := (HB.out.cell (World.block_lt_of_cell? w _ hx255_2)).trans hx255_2
                      replace p255 := eq_true p255
                      replace q255 := eq_true q255
                      go_wp2
                      repeat (go_quiet (fail); try go_wp2)
                      go_roundg k2
                      case measure => have := HJ2.out; have := HK2.out; omega
                      case rel => exact ⟨(wrap64 (x38_2 + 1)), (by first | rfl | (simp; done) | (simp [*]; done)), H', ⟨by have := HJ2.out; have := HK2.out; omega⟩, ⟨by (with_reducible repeat (first | refine blk_drewN ?_ _ | refine blk_drew ?_ | refine blk_alloc ?_ _)); exact BK251.out⟩, ⟨by (with_reducible repeat (first | refine blk_drewN ?_ _ | refine blk_drew ?_ | refine blk_alloc ?_ _)); exact BK252.out⟩, ⟨by repeat (first | (with_reducible first | exact HB.out | apply below_alloc | apply pw_below_drewN | apply below_drew1 | refine below_set ?_ GE251.out | refine below_set ?_ GE252.out) | exact HB.out)⟩⟩
                  · rw [if_neg c32] at H
                    exact absurd H (by simp)
                · rw [if_neg c31] at H
                  exact absurd H (by simp)
              · rw [if_neg c30] at H
                exact absurd H (by simp)
            · rw [if_neg c29] at H
              have c29b0 : decide (x38_2 < (l0_7.length : Int)) = false := decide_eq_false c29
              clear c29
              obtain rfl := Option.some.inj H
              go_wp2
              repeat (go_quiet (fail); try go_wp2)
              go_ret
              exact ⟨by first | rfl | (simp [errW_none, errW_some] <;> rfl) | (simp [*, errW_none, errW_some] <;> rfl), by repeat (first | (with_reducible first | exact HB.out | apply below_alloc | apply pw_below_drewN | apply below_drew1 | refine below_set ?_ GE251.out | refine below_set ?_ GE252.out) | exact HB.out)⟩

end Go.Proofs.YtokpnfljjjjikaaGreatDoor.QCmd
