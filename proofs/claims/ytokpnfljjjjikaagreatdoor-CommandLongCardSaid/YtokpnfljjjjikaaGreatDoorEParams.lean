/- command.params: the contract. -/
import Derived.Test.YtokpnfljjjjikaaGreatDoorQCmdx10
import Derived.Test.YtokpnfljjjjikaaGreatDoorQCmdx5
import Derived.Lib.Hide
namespace Go.Proofs.YtokpnfljjjjikaaGreatDoor.QCmd
open Go.RowKit Go.Proofs.YtokpnfljjjjikaaGreatDoorW.PrintWords Go.Proofs.YtokpnfljjjjikaaGreatDoorW.PrintLast Go.Proofs.YtokpnfljjjjikaaGreatDoorW.PrintMore

set_option linter.unusedSimpArgs false

def command_params.l (k : Nat) : List ByteArray → List S58 → Option (Option (List S58))
  | [], ps => some (some ps)
  | x :: xs, ps => (strings_Cut.f x ⟨#[61]⟩).bind fun t => (command_great.f t.1).bind fun g => (command_param.f k g t.2.1 t.2.2).bind fun b => if b = true then command_params.l k xs (ps ++ [⟨g, t.2.1, t.2.2⟩]) else some none
def command_params.e (xs : List ByteArray) : Option (List S58) → List S58 × Bool
  | none => ([], false)
  | some ps => (ps, (xs.getD 0 ⟨#[]⟩).toList.isEmpty)
def command_params.f (k : Nat) (s : ByteArray) : Option (List S58 × Bool) :=
  if s.toList.isEmpty = true then some ([], true) else (strings_Split.f s ⟨#[32]⟩).bind fun xs => (command_params.l k (xs.drop 1) []).bind fun o => some (command_params.e xs o)
structure PH (w W : World) (A : Option Addr) (c : Nat) (xs : List ByteArray) (v : Value) (ps : List S58) : Prop where
  bl : Below w.heap.size w W
  hs : Kd.R Kd.string 9 W w.heap.size (fun _ => True) (.slice A xs.length c) xs
  hp : Kd.R k58 58 W w.heap.size (fun _ => True) v ps
section
variable {w W W1 : World} {A : Option Addr} {c : Nat} {xs : List ByteArray} {v : Value} {ps : List S58}
theorem PH.below (H : PH w W A c xs v ps) (hb : Below W.heap.size W W1) : PH w W1 A c xs v ps := ⟨below_weaken H.bl H.bl.size hb, Kd.R_below H.hs hb, Kd.R_below H.hp hb⟩
theorem PH.at (H : PH w W A c xs v ps) (k : Nat) (hk : k < xs.length) : ∃ g x, A = some ⟨g, 0, none⟩ ∧ xs[k]? = some x ∧ W.cell? ⟨g, k, none⟩ = some (.string x) := by
  obtain ⟨ad, e1, hc⟩ := Kd.at_string (Kd.R_reads' H.hs).2.2 (k : Int) (by omega) (by omega)
  have hA : ∃ g, A = some ⟨g, 0, none⟩ := by
    obtain ⟨_, inner, ⟨_, ho⟩, _⟩ := H.hs
    rcases ho with ⟨h1, _⟩ | ⟨g, cap, cur, h1, _⟩
    · injection h1 with h1 h2; rw [h1] at e1; cases e1
    · injection h1 with h1 h2; exact ⟨g, h1⟩
  obtain ⟨g, rfl⟩ := hA
  obtain rfl := Option.some.inj e1
  refine ⟨g, xs[k], rfl, List.getElem?_eq_getElem hk, ?_⟩
  have h1 : rdOf ByteArray.empty xs (k : Int) = xs[k] := by simp [rdOf, hk]
  have h2 : ((k : Int)).toNat = k := by omega
  rw [h1, h2, add_plain] at hc
  exact hc
theorem PH.app (H : PH w W A c xs v ps) {v1 : Value} {n : S58} (ho : Kd.R k58 58 W1 w.heap.size (fun _ => True) v1 (ps ++ [n])) (hb : Below w.heap.size W W1) (hg : W.grownBy W1 v.ownBlock) : PH w W1 A c xs v1 (ps ++ [n]) := by
  refine ⟨below_weaken H.bl (Nat.le_refl _) hb, ?_, ho⟩
  exact Kd.R_mono (Kd.R_grown (Kd.R_apart' H.hs (Kd.R_typed H.hp) (by decide)) hg (fun _ hk => hk.2)) (fun _ _ => trivial)
end
set_option maxRecDepth 100000 in
set_option maxHeartbeats 8000000 in
theorem command_params.calls (k : Nat) (a0 : ByteArray) (r1 : List S58) (r2 : Bool) (w : World) (hG : GlobalsOK w) (h : command_params.f k a0 = some (r1, r2)) :
    Calls Tryz.prog 141 #[.string a0] w fun e w' => ∃ v1_ : Value, e = .returned (.tuple #[v1_, .bool r2]) ∧ Kd.R k58 58 w' w.heap.size (fun _ => True) v1_ r1 ∧ Below w.heap.size w w' := by
  unfold command_params.f at h
  by_cases h0 : a0.toList.isEmpty = true
  · rw [if_pos h0] at h
    simp only [Option.some.injEq, Prod.mk.injEq] at h
    obtain ⟨rfl, rfl⟩ := h
    clear hG
    go_enter Tryz.func141, Tryz.ntmps141
    go_wp2
    go_ret2
    exact ⟨_, rfl, Kd.R_nil _ _ _ _ _, Below.refl _ _⟩
  · rw [if_neg h0] at h
    replace h0 := Bool.eq_false_iff.mpr h0
    obtain ⟨xs, A1, h⟩ := Option.bind_eq_some_iff.mp h
    obtain ⟨o, A2, h⟩ := Option.bind_eq_some_iff.mp h
    try dsimp only at A1 A2 h
    have hx : 1 ≤ xs.length ∧ xs.length ≤ 4294967282 := by
      unfold strings_Split.f at A1
      rw [show one? ⟨#[32]⟩ = some 32 from rfl] at A1
      simp only at A1
      split at A1
      · rename_i hs
        obtain rfl := Option.some.inj A1
        have h1 := pieces_length 32 a0.data.toList
        have h2 : a0.data.toList.count 32 ≤ a0.data.toList.length := List.count_le_length ..
        have h3 : a0.data.toList.length = a0.size := rfl
        rw [List.length_map, h1]
        omega
      · cases A1
    obtain ⟨hx1, hx2⟩ := hx
    have HG := Lib.hid hG
    have HA1 := Lib.hid A1
    have HA2 := Lib.hid A2
    have HO := Lib.hid (Option.some.inj h)
    have HX2 := Lib.hid hx2
    clear hG A1 A2 h hx2
    have e1 : decide ((1 : Int) ≤ (xs.length : Int)) = true := decide_eq_true (by omega)
    go_enter Tryz.func141, Tryz.ntmps141
    go_wp2_with (go_at_call 75; refine (strings_Split.calls a0 ⟨#[32]⟩ xs w HG.out HA1.out).mono ?_; rintro e w1 ⟨v0, rfl, hr, hb⟩; obtain ⟨A0, c0, rfl⟩ := Kd.R_slice hr; have HP := Lib.hid (PH.mk hb hr (Kd.R_nil k58 58 w1 w.heap.size (fun _ => True))); obtain ⟨g0, x0, e2, hx0, hc0⟩ := HP.out.at 0 hx1; cases e2; clear hr hb hx0 hc0)
    case inl =>
      have hc01 : c0 = 1 := by assumption
      subst hc01
      go_loopw [4, 19] (fun v i wr => ∃ (j : Nat) (ps : List S58), i = .int .i64 j ∧ j + 1 ≤ xs.length ∧ ps.length = j ∧ Hid (command_params.l k (xs.drop (j + 1)) ps = some o) ∧ Hid (PH w wr (some ⟨g0, 0, none⟩) 1 xs v ps)) (fun _ i _ => xs.length - (intOf i).toNat)
      case atStart => exact ⟨0, [], rfl, hx1, rfl, HA2, HP⟩
      case round =>
        clear HP HA2
        obtain ⟨j, ps, rfl, hj, hps, HL, HP⟩ := hrel
        by_cases hlt : j + 1 < xs.length
        · exact absurd (Kd.R_reads' HP.out.hs).2.1 (by omega)
        · obtain ⟨g2, x, e2, hx, hc⟩ := HP.out.at 0 hx1
          cases e2
          have hL := HL.out
          rw [List.drop_of_length_le (by omega)] at hL
          obtain rfl := Option.some.inj hL
          have hO := HO.out
          unfold command_params.e at hO
          rw [List.getD_eq_getElem?_getD, hx] at hO
          obtain ⟨rfl, rfl⟩ := Prod.mk.inj hO
          clear HL HO hL hO hx
          have e3 : decide ((j : Int) < ((xs.length - 1 : Nat) : Int)) = false := decide_eq_false (by omega)
          go_wp2
          go_quiet (fail)
          go_wp2
          go_ret2
          exact ⟨_, rfl, (HP.out.below (pw_below_drewN (Below.refl _ _) _)).hp, (HP.out.below (pw_below_drewN (Below.refl _ _) _)).bl⟩
    case inr =>
      go_loopw [4, 19] (fun v i wr => ∃ (j : Nat) (ps : List S58), i = .int .i64 j ∧ j + 1 ≤ xs.length ∧ ps.length = j ∧ Hid (command_params.l k (xs.drop (j + 1)) ps = some o) ∧ Hid (PH w wr (some ⟨g0, 0, none⟩) c0 xs v ps)) (fun _ i _ => xs.length - (intOf i).toNat)
      case atStart => exact ⟨0, [], rfl, hx1, rfl, HA2, HP⟩
      case round =>
        clear HP HA2
        obtain ⟨j, ps, rfl, hj, hps, HL, HP⟩ := hrel
        by_cases hlt : j + 1 < xs.length
        · obtain ⟨g2, x, e2, hx, hc⟩ := HP.out.at (j + 1) hlt
          cases e2
          have hL := HL.out
          rw [List.drop_eq_getElem_cons hlt] at hL
          rw [List.getElem?_eq_getElem hlt] at hx
          rw [Option.some.inj hx] at hL
          clear HL hx
          unfold command_params.l at hL
          obtain ⟨⟨t1, t2, t3⟩, B1, hL⟩ := Option.bind_eq_some_iff.mp hL
          obtain ⟨g, B2, hL⟩ := Option.bind_eq_some_iff.mp hL
          obtain ⟨b, B3, hL⟩ := Option.bind_eq_some_iff.mp hL
          dsimp only at B2 B3 hL
          have HB1 := Lib.hid B1
          have HB2 := Lib.hid B2
          have HB3 := Lib.hid B3
          have HL := Lib.hid hL
          clear B1 B2 B3 hL
          rw [show j + 1 = 0 + 1 + j by omega] at hc
          have e3 : decide ((j : Int) < ((xs.length - 1 : Nat) : Int)) = true := decide_eq_true (by omega)
          cases b with
          | true =>
            go_wp2_with (first
              | (go_at_call 91; refine (strings_Cut.calls x ⟨#[61]⟩ t1 t2 t3 _ (HG.out.below HP.out.bl) HB1.out).mono ?_; rintro e w2 ⟨rfl, n, rfl⟩)
              | (go_at_call 93; refine (command_great.calls t1 g _ HB2.out).mono ?_; rintro e w3 ⟨rfl, hb3⟩; have HB3w := Lib.hid hb3; clear hb3)
              | (go_at_call 138; refine (command_param.calls k g t2 t3 true _ HB3.out).mono ?_; rintro e w4 ⟨rfl, hb4⟩; have hbk := (hb4.block w3.heap.size (by simp)).trans (heap_alloc_new w3 _); have hc40 : w4.cell? ⟨w3.heap.size, 0, none⟩ = some (.string g) := (blk_cell hbk 0).trans rfl; have hc41 : w4.cell? ⟨w3.heap.size, 1, none⟩ = some (.string t2) := (blk_cell hbk 1).trans rfl; have hc42 : w4.cell? ⟨w3.heap.size, 2, none⟩ = some (.bool t3) := (blk_cell hbk 2).trans rfl; have h1 := pw_below_drewN (Below.refl wr.heap.size wr) n; have h2 := below_weaken h1 h1.size HB3w.out; have h3 := below_alloc h2 (.cells #[.string g, .string t2, .bool t3] 58); have HP4 := Lib.hid (HP.out.below (below_weaken h3 h3.size hb4)); clear hb4 hbk h1 h2 h3)
              | ((with_reducible refine gate_builtin (b := .append) (xs := #[.tmp 37, .tmp 39]) rfl ?_); at_builtin; refine Kd.R_append k58 w.heap.size rfl (.tmp 37) (.tmp 39) 33 58 (.agg #[.string ⟨#[]⟩, .string ⟨#[]⟩, .bool false]) 40 rfl Tryz.underlying33 info58 rfl (by decide) (by omega) _ ps ⟨g, t2, t3⟩ [.string g, .string t2, .bool t3] (fun _ => True) (fun _ => False) rfl (by first | (go_simp; done) | (go_simp; rfl)) ?aP (fun _ hk => hk.elim) ?aF ?aO (Below.refl _ _) ?aS ?aL ?_; (case aP => exact k58_mkM _ _ _ _); (case aF => exact (fun _ _ => trivial)); (case aO => exact HP4.out.hp); (case aS => exact HP4.out.bl.size); (case aL => have := HX2.out; omega); intro v3 w5 ho hb hg hat; obtain ⟨A3, c3, rfl⟩ := Kd.R_slice ho; have HP5 := Lib.hid (HP4.out.app ho hb hg); clear ho hb hg hat))
            have hx2 := HX2.out
            have hw : wrap64 ((j : Int) + 1) = ((j + 1 : Nat) : Int) := by unfold wrap64; omega
            go_roundw
            case rel => exact ⟨j + 1, ps ++ [⟨g, t2, t3⟩], by rw [hw], by omega, by simp [hps], Lib.hid (by have h := HL.out; rw [if_pos trivial] at h; exact h), Lib.hid (by have h := HP5.out; rw [List.length_append, hps] at h; exact h)⟩
            case measure => rw [hw]; simp [intOf]; omega
          | false =>
            go_wp2_with (first
              | (go_at_call 91; refine (strings_Cut.calls x ⟨#[61]⟩ t1 t2 t3 _ (HG.out.below HP.out.bl) HB1.out).mono ?_; rintro e w2 ⟨rfl, n, rfl⟩)
              | (go_at_call 93; refine (command_great.calls t1 g _ HB2.out).mono ?_; rintro e w3 ⟨rfl, hb3⟩; have HB3w := Lib.hid hb3; clear hb3)
              | (go_at_call 138; refine (command_param.calls k g t2 t3 false _ HB3.out).mono ?_; rintro e w4 ⟨rfl, hb4⟩; have hbk := (hb4.block w3.heap.size (by simp)).trans (heap_alloc_new w3 _); have hc40 : w4.cell? ⟨w3.heap.size, 0, none⟩ = some (.string g) := (blk_cell hbk 0).trans rfl; have hc41 : w4.cell? ⟨w3.heap.size, 1, none⟩ = some (.string t2) := (blk_cell hbk 1).trans rfl; have hc42 : w4.cell? ⟨w3.heap.size, 2, none⟩ = some (.bool t3) := (blk_cell hbk 2).trans rfl; have h1 := pw_below_drewN (Below.refl wr.heap.size wr) n; have h2 := below_weaken h1 h1.size HB3w.out; have h3 := below_alloc h2 (.cells #[.string g, .string t2, .bool t3] 58); have HP4 := Lib.hid (HP.out.below (below_weaken h3 h3.size hb4)); clear hb4 hbk h1 h2 h3))
            have hL := HL.out
            rw [if_neg (by decide)] at hL
            obtain rfl := Option.some.inj hL
            have hO := HO.out
            obtain ⟨rfl, rfl⟩ := Prod.mk.inj hO
            go_ret2
            exact ⟨_, rfl, Kd.R_nil _ _ _ _ _, HP4.out.bl⟩
        · obtain ⟨g2, x, e2, hx, hc⟩ := HP.out.at 0 hx1
          cases e2
          have hL := HL.out
          rw [List.drop_of_length_le (by omega)] at hL
          obtain rfl := Option.some.inj hL
          have hO := HO.out
          unfold command_params.e at hO
          rw [List.getD_eq_getElem?_getD, hx] at hO
          obtain ⟨rfl, rfl⟩ := Prod.mk.inj hO
          clear HL HO hL hO hx
          have e3 : decide ((j : Int) < ((xs.length - 1 : Nat) : Int)) = false := decide_eq_false (by omega)
          go_wp2
          go_quiet (fail)
          go_wp2
          go_ret2
          exact ⟨_, rfl, (HP.out.below (pw_below_drewN (Below.refl _ _) _)).hp, (HP.out.below (pw_below_drewN (Below.refl _ _) _)).bl⟩
end Go.Proofs.YtokpnfljjjjikaaGreatDoor.QCmd
