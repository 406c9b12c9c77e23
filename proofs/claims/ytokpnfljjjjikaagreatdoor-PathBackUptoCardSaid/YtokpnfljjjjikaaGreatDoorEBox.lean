/- path.PrintBox: contract. -/
import Derived.Test.YtokpnfljjjjikaaGreatDoorENew
import Derived.Test.YtokpnfljjjjikaaGreatDoorQPathx11
import Derived.Test.YtokpnfljjjjikaaGreatDoorQPathx4
namespace Go.Proofs.YtokpnfljjjjikaaGreatDoor.QPath
open Go.RowKit Go.Proofs.YtokpnfljjjjikaaGreatDoorW.PrintWords Go.Proofs.YtokpnfljjjjikaaGreatDoorW.PrintMore
set_option linter.unusedVariables false
set_option linter.unusedSimpArgs false

def boxS (l dom : ByteArray) (lit : Bool) : ByteArray := if lit = true then ((l ++ (⟨#[64, 91]⟩ : ByteArray)) ++ dom) ++ (⟨#[93]⟩ : ByteArray) else (l ++ (⟨#[64]⟩ : ByteArray)) ++ dom
def quotedS (l : ByteArray) : ByteArray := ((⟨#[34]⟩ : ByteArray) ++ quoteS l) ++ (⟨#[34]⟩ : ByteArray)
def path_PrintBox.f (k : Nat) (lo dom : ByteArray) (lit : Bool) : Option (ByteArray × Int) :=
  (path_boxed.f k lo dom lit).bind fun b => if b = true then
    (path_reader_list_at_path_reader_atom.f k lo 0 46).bind fun t =>
      if lo.size ≤ 70368744177664 ∧ dom.size ≤ 70368744177664 then
        some (boxS (if t.1 = true ∧ t.2.2 = (lo.size : Int) then lo else quotedS lo) dom lit, 0)
      else none
  else some (⟨#[]⟩, 150)
theorem quoteS_size (s : ByteArray) : (quoteS s).size ≤ s.size + s.size := by
  unfold quoteS
  rw [strOfNums_size, quoteI_length, bytesOf_length]
  have h := countP_le (bytesOf s) (bytesOf s).length
  rw [List.take_length, bytesOf_length] at h
  omega
theorem list_step (k : Nat) (lo s' : ByteArray) (ok : Bool) (at' : Int) (ht : path_reader_list_at_path_reader_atom.f k lo 0 46 = some (ok, s', at')) (w w1 : World) (hb : Below w.heap.size w w1) (hlt : w.heap.size < w1.heap.size) :
    Calls Tryz.prog 67 #[.pointer (some ⟨w1.heap.size, 0, none⟩), .int .u8 46, .func (.func 68) #[.pointer (some ⟨w1.heap.size, 0, none⟩)] #[]] (w1.alloc (.cells #[.string lo, .int .i64 0] 82)) fun e w3 => e = .returned (.bool ok) ∧ Below w.heap.size w w3 ∧ w3.cell? ⟨w1.heap.size, 1, none⟩ = some (.int .i64 at') ∧ (∀ j, w3.cell? ⟨w.heap.size, j, none⟩ = w1.cell? ⟨w.heap.size, j, none⟩) ∧ w.heap.size < w3.heap.size := by
  refine (path_reader_list_at_path_reader_atom.calls k _ lo 0 46 ok s' at' w _ ⟨heap_alloc_new w1 _, hb.size⟩ (hb.alloc hb.size _) ht).mono ?_
  rintro e w3 ⟨rfl, hi, hb3, hk⟩
  have hsz : w.heap.size < w3.heap.size := Nat.lt_of_lt_of_le hlt (Nat.le_of_lt (Array.getElem?_eq_some_iff.1 hi.1).1)
  refine ⟨rfl, hb3, cellS82_1 hi.1, fun j => ?_, hsz⟩
  refine (World.cell?_of_block (hk.2 w.heap.size (by simp; omega) (by omega) (by simp))).trans ?_
  exact World.cell?_alloc_past _ _ _ hlt
set_option maxRecDepth 100000 in
set_option maxHeartbeats 8000000 in
theorem path_PrintBox.calls (k : Nat) (a0_0 a0_1 : ByteArray) (a0_2 : Bool) (r1 : ByteArray) (r2 : Int) (w : World) (hG : GlobalsOK w) (h : path_PrintBox.f k a0_0 a0_1 a0_2 = some (r1, r2)) :
    Calls Tryz.prog 22 #[.agg #[.string a0_0, .string a0_1, .bool a0_2]] w fun e w' => e = .returned (.tuple #[.string r1, .int .i64 r2]) ∧ Below w.heap.size w w' := by
  unfold path_PrintBox.f at h
  obtain ⟨b, hb, h⟩ := Option.bind_eq_some_iff.mp h
  have HG := Lib.hid hG
  have HBX := Lib.hid (fun (W : World) (hw : GlobalsOK W) => path_boxed.calls k a0_0 a0_1 a0_2 b W hw hb)
  clear hG hb
  cases b with
  | false =>
    rw [if_neg (by decide)] at h
    cases h
    go_enter Tryz.func22, Tryz.ntmps22
    go_wp2_with (go_at_call 63; refine (HBX.out _ (HG.out.below (below_alloc (Below.refl _ _) _))).mono ?_; rintro e w1 ⟨rfl, hb1⟩; have HB1 := Lib.hid hb1; clear hb1)
    go_ret2
    exact ⟨rfl, below_weaken (below_alloc (Below.refl _ _) _) (by simp) HB1.out⟩
  | true =>
    rw [if_pos rfl] at h
    obtain ⟨⟨ok, s', at'⟩, ht, h⟩ := Option.bind_eq_some_iff.mp h
    simp only at h
    by_cases hs : a0_0.size ≤ 70368744177664 ∧ a0_1.size ≤ 70368744177664
    case neg => rw [if_neg hs] at h; cases h
    rw [if_pos hs] at h
    obtain ⟨hs1, hs2⟩ := hs
    have HT := Lib.hid ht
    clear ht
    have hq := quoteS_size a0_0
    have HS1 := Lib.hid hs1
    obtain ⟨Q, hQ⟩ : ∃ Q, Q = quoteS a0_0 := ⟨_, rfl⟩
    rw [← hQ] at hq
    have HQ := Lib.hid hQ
    have e1 : (9223372036854775807 < 1 + Q.size) = False := eq_false (by omega)
    have e2 : (9223372036854775807 < 1 + Q.size + 1) = False := eq_false (by omega)
    have e3 : (9223372036854775807 < a0_0.size + 2) = False := eq_false (by omega)
    have e4 : (9223372036854775807 < a0_0.size + 2 + a0_1.size) = False := eq_false (by omega)
    have e5 : (9223372036854775807 < a0_0.size + 2 + a0_1.size + 1) = False := eq_false (by omega)
    have e6 : (9223372036854775807 < a0_0.size + 1) = False := eq_false (by omega)
    have e7 : (9223372036854775807 < a0_0.size + 1 + a0_1.size) = False := eq_false (by omega)
    have e8 : (9223372036854775807 < 1 + Q.size + 1 + 2) = False := eq_false (by omega)
    have e9 : (9223372036854775807 < 1 + Q.size + 1 + 2 + a0_1.size) = False := eq_false (by omega)
    have e10 : (9223372036854775807 < 1 + Q.size + 1 + 2 + a0_1.size + 1) = False := eq_false (by omega)
    have e11 : (9223372036854775807 < 1 + Q.size + 1 + 1) = False := eq_false (by omega)
    have e12 : (9223372036854775807 < 1 + Q.size + 1 + 1 + a0_1.size) = False := eq_false (by omega)
    clear hs1 hs2 hq hQ
    by_cases hp : ok = true ∧ at' = (a0_0.size : Int)
    · rw [if_pos hp] at h
      obtain ⟨rfl, hat⟩ := hp
      have b1 : (at' != (a0_0.size : Int)) = false := by simp [hat]
      clear hat
      cases a0_2 with
      | true =>
        have HR := Lib.hid (Option.some.inj h)
        clear h
        go_enter Tryz.func22, Tryz.ntmps22
        go_wp2_with (first
          | (go_at_call 63; refine (HBX.out _ (HG.out.below (below_alloc (Below.refl _ _) _))).mono ?_; rintro e w1 ⟨rfl, hb1⟩; have k0 := (hb1.cell (p := ⟨w.heap.size, 0, none⟩) (by simp)).trans (World.cell?_alloc_at _ _ _ _ rfl); have k1 := (hb1.cell (p := ⟨w.heap.size, 1, none⟩) (by simp)).trans (World.cell?_alloc_at _ _ _ _ rfl); have k2 := (hb1.cell (p := ⟨w.heap.size, 2, none⟩) (by simp)).trans (World.cell?_alloc_at _ _ _ _ rfl); have HS := Lib.hid (show w.heap.size < w1.heap.size by have := hb1.size; simp at this; omega); have HB1 := Lib.hid (below_weaken (below_alloc (Below.refl _ _) _) (by simp) hb1); clear hb1)
          | (go_at_call 67; refine (list_step k a0_0 s' true at' HT.out w w1 HB1.out HS.out).mono ?_; rintro e w3 ⟨rfl, hb3, hat3, hj3, hs3⟩; have l0 := (hj3 0).trans k0; have l1 := (hj3 1).trans k1; have l2 := (hj3 2).trans k2; clear k0 k1 k2 hj3; have HB3 := Lib.hid hb3; have HS3 := Lib.hid hs3; clear hb3 hs3))
        go_ret2
        exact ⟨by have h1 := HR.out; have h2 := (Prod.mk.inj h1).1; have h3 := (Prod.mk.inj h1).2; rw [← h2, ← h3]; rfl, HB3.out⟩
      | false =>
        have HR := Lib.hid (Option.some.inj h)
        clear h
        go_enter Tryz.func22, Tryz.ntmps22
        go_wp2_with (first
          | (go_at_call 63; refine (HBX.out _ (HG.out.below (below_alloc (Below.refl _ _) _))).mono ?_; rintro e w1 ⟨rfl, hb1⟩; have k0 := (hb1.cell (p := ⟨w.heap.size, 0, none⟩) (by simp)).trans (World.cell?_alloc_at _ _ _ _ rfl); have k1 := (hb1.cell (p := ⟨w.heap.size, 1, none⟩) (by simp)).trans (World.cell?_alloc_at _ _ _ _ rfl); have k2 := (hb1.cell (p := ⟨w.heap.size, 2, none⟩) (by simp)).trans (World.cell?_alloc_at _ _ _ _ rfl); have HS := Lib.hid (show w.heap.size < w1.heap.size by have := hb1.size; simp at this; omega); have HB1 := Lib.hid (below_weaken (below_alloc (Below.refl _ _) _) (by simp) hb1); clear hb1)
          | (go_at_call 67; refine (list_step k a0_0 s' true at' HT.out w w1 HB1.out HS.out).mono ?_; rintro e w3 ⟨rfl, hb3, hat3, hj3, hs3⟩; have l0 := (hj3 0).trans k0; have l1 := (hj3 1).trans k1; have l2 := (hj3 2).trans k2; clear k0 k1 k2 hj3; have HB3 := Lib.hid hb3; have HS3 := Lib.hid hs3; clear hb3 hs3))
        go_ret2
        exact ⟨by have h1 := HR.out; have h2 := (Prod.mk.inj h1).1; have h3 := (Prod.mk.inj h1).2; rw [← h2, ← h3]; rfl, HB3.out⟩
    · rw [if_neg hp] at h
      cases ok with
      | false =>
        clear hp
        cases a0_2 with
        | true =>
          have HR := Lib.hid (Option.some.inj h)
          clear h
          go_enter Tryz.func22, Tryz.ntmps22
          go_wp2_with (first
            | (go_at_call 63; refine (HBX.out _ (HG.out.below (below_alloc (Below.refl _ _) _))).mono ?_; rintro e w1 ⟨rfl, hb1⟩; have k0 := (hb1.cell (p := ⟨w.heap.size, 0, none⟩) (by simp)).trans (World.cell?_alloc_at _ _ _ _ rfl); have k1 := (hb1.cell (p := ⟨w.heap.size, 1, none⟩) (by simp)).trans (World.cell?_alloc_at _ _ _ _ rfl); have k2 := (hb1.cell (p := ⟨w.heap.size, 2, none⟩) (by simp)).trans (World.cell?_alloc_at _ _ _ _ rfl); have HS := Lib.hid (show w.heap.size < w1.heap.size by have := hb1.size; simp at this; omega); have HB1 := Lib.hid (below_weaken (below_alloc (Below.refl _ _) _) (by simp) hb1); clear hb1)
            | (go_at_call 67; refine (list_step k a0_0 s' false at' HT.out w w1 HB1.out HS.out).mono ?_; rintro e w3 ⟨rfl, hb3, hat3, hj3, hs3⟩; have l0 := (hj3 0).trans k0; have l1 := (hj3 1).trans k1; have l2 := (hj3 2).trans k2; clear k0 k1 k2 hj3; have HB3 := Lib.hid hb3; have HS3 := Lib.hid hs3; clear hb3 hs3)
            | (go_at_call 69; refine (new_calls _ _ _ (by simp) (by simp) (by simp) (by simp)).mono ?_; rintro e w4 ⟨p, q, rfl, hn⟩; have m1 := (hn.bel.cell (p := ⟨w.heap.size, 1, none⟩) (by have := HS3.out; simp; omega)).trans ((World.cell?_alloc_past _ _ _ HS3.out).trans l1); have m2 := (hn.bel.cell (p := ⟨w.heap.size, 2, none⟩) (by have := HS3.out; simp; omega)).trans ((World.cell?_alloc_past _ _ _ HS3.out).trans l2); clear l0 l1 l2; have HN := Lib.hid hn; clear hn)
            | (go_at_call 70; obtain ⟨c4, hc4⟩ := HN.out.k4; refine (replace_calls a0_0 HS1.out p q c4 _ HN.out.ql HN.out.pl HN.out.pq HN.out.k0 HN.out.k1 HN.out.k3 hc4 HN.out.fz HN.out.s0 HN.out.s1 HN.out.s2 HN.out.s3 _ HN.out.pn).mono ?_; clear hc4; rintro e w5 ⟨rfl, hb5⟩; rw [← HQ.out]; have n1 := (hb5.cell (p := ⟨w.heap.size, 1, none⟩) (by have := HS3.out; simp; omega)).trans m1; have n2 := (hb5.cell (p := ⟨w.heap.size, 2, none⟩) (by have := HS3.out; simp; omega)).trans m2; clear m1 m2; have HB5 := Lib.hid hb5; clear hb5))
          go_ret2
          exact ⟨by have h1 := HR.out; have h2 := (Prod.mk.inj h1).1; have h3 := (Prod.mk.inj h1).2; rw [← h2, ← h3]; unfold boxS quotedS; rw [← HQ.out]; rfl, HB3.out.trans (((below_alloc (Below.refl w3.heap.size w3) _).mono (by have := HS3.out; omega)).trans ((HN.out.bel.mono (by have := HS3.out; simp; omega)).trans (HB5.out.mono (by have := HS3.out; simp; omega))))⟩
        | false =>
          have HR := Lib.hid (Option.some.inj h)
          clear h
          go_enter Tryz.func22, Tryz.ntmps22
          go_wp2_with (first
            | (go_at_call 63; refine (HBX.out _ (HG.out.below (below_alloc (Below.refl _ _) _))).mono ?_; rintro e w1 ⟨rfl, hb1⟩; have k0 := (hb1.cell (p := ⟨w.heap.size, 0, none⟩) (by simp)).trans (World.cell?_alloc_at _ _ _ _ rfl); have k1 := (hb1.cell (p := ⟨w.heap.size, 1, none⟩) (by simp)).trans (World.cell?_alloc_at _ _ _ _ rfl); have k2 := (hb1.cell (p := ⟨w.heap.size, 2, none⟩) (by simp)).trans (World.cell?_alloc_at _ _ _ _ rfl); have HS := Lib.hid (show w.heap.size < w1.heap.size by have := hb1.size; simp at this; omega); have HB1 := Lib.hid (below_weaken (below_alloc (Below.refl _ _) _) (by simp) hb1); clear hb1)
            | (go_at_call 67; refine (list_step k a0_0 s' false at' HT.out w w1 HB1.out HS.out).mono ?_; rintro e w3 ⟨rfl, hb3, hat3, hj3, hs3⟩; have l0 := (hj3 0).trans k0; have l1 := (hj3 1).trans k1; have l2 := (hj3 2).trans k2; clear k0 k1 k2 hj3; have HB3 := Lib.hid hb3; have HS3 := Lib.hid hs3; clear hb3 hs3)
            | (go_at_call 69; refine (new_calls _ _ _ (by simp) (by simp) (by simp) (by simp)).mono ?_; rintro e w4 ⟨p, q, rfl, hn⟩; have m1 := (hn.bel.cell (p := ⟨w.heap.size, 1, none⟩) (by have := HS3.out; simp; omega)).trans ((World.cell?_alloc_past _ _ _ HS3.out).trans l1); have m2 := (hn.bel.cell (p := ⟨w.heap.size, 2, none⟩) (by have := HS3.out; simp; omega)).trans ((World.cell?_alloc_past _ _ _ HS3.out).trans l2); clear l0 l1 l2; have HN := Lib.hid hn; clear hn)
            | (go_at_call 70; obtain ⟨c4, hc4⟩ := HN.out.k4; refine (replace_calls a0_0 HS1.out p q c4 _ HN.out.ql HN.out.pl HN.out.pq HN.out.k0 HN.out.k1 HN.out.k3 hc4 HN.out.fz HN.out.s0 HN.out.s1 HN.out.s2 HN.out.s3 _ HN.out.pn).mono ?_; clear hc4; rintro e w5 ⟨rfl, hb5⟩; rw [← HQ.out]; have n1 := (hb5.cell (p := ⟨w.heap.size, 1, none⟩) (by have := HS3.out; simp; omega)).trans m1; have n2 := (hb5.cell (p := ⟨w.heap.size, 2, none⟩) (by have := HS3.out; simp; omega)).trans m2; clear m1 m2; have HB5 := Lib.hid hb5; clear hb5))
          go_ret2
          exact ⟨by have h1 := HR.out; have h2 := (Prod.mk.inj h1).1; have h3 := (Prod.mk.inj h1).2; rw [← h2, ← h3]; unfold boxS quotedS; rw [← HQ.out]; rfl, HB3.out.trans (((below_alloc (Below.refl w3.heap.size w3) _).mono (by have := HS3.out; omega)).trans ((HN.out.bel.mono (by have := HS3.out; simp; omega)).trans (HB5.out.mono (by have := HS3.out; simp; omega))))⟩
      | true =>
        have b1 : (at' != (a0_0.size : Int)) = true := by simp; intro h1; exact hp ⟨rfl, h1⟩
        clear hp
        cases a0_2 with
        | true =>
          have HR := Lib.hid (Option.some.inj h)
          clear h
          go_enter Tryz.func22, Tryz.ntmps22
          go_wp2_with (first
            | (go_at_call 63; refine (HBX.out _ (HG.out.below (below_alloc (Below.refl _ _) _))).mono ?_; rintro e w1 ⟨rfl, hb1⟩; have k0 := (hb1.cell (p := ⟨w.heap.size, 0, none⟩) (by simp)).trans (World.cell?_alloc_at _ _ _ _ rfl); have k1 := (hb1.cell (p := ⟨w.heap.size, 1, none⟩) (by simp)).trans (World.cell?_alloc_at _ _ _ _ rfl); have k2 := (hb1.cell (p := ⟨w.heap.size, 2, none⟩) (by simp)).trans (World.cell?_alloc_at _ _ _ _ rfl); have HS := Lib.hid (show w.heap.size < w1.heap.size by have := hb1.size; simp at this; omega); have HB1 := Lib.hid (below_weaken (below_alloc (Below.refl _ _) _) (by simp) hb1); clear hb1)
            | (go_at_call 67; refine (list_step k a0_0 s' true at' HT.out w w1 HB1.out HS.out).mono ?_; rintro e w3 ⟨rfl, hb3, hat3, hj3, hs3⟩; have l0 := (hj3 0).trans k0; have l1 := (hj3 1).trans k1; have l2 := (hj3 2).trans k2; clear k0 k1 k2 hj3; have HB3 := Lib.hid hb3; have HS3 := Lib.hid hs3; clear hb3 hs3)
            | (go_at_call 69; refine (new_calls _ _ _ (by simp) (by simp) (by simp) (by simp)).mono ?_; rintro e w4 ⟨p, q, rfl, hn⟩; have m1 := (hn.bel.cell (p := ⟨w.heap.size, 1, none⟩) (by have := HS3.out; simp; omega)).trans ((World.cell?_alloc_past _ _ _ HS3.out).trans l1); have m2 := (hn.bel.cell (p := ⟨w.heap.size, 2, none⟩) (by have := HS3.out; simp; omega)).trans ((World.cell?_alloc_past _ _ _ HS3.out).trans l2); clear l0 l1 l2; have HN := Lib.hid hn; clear hn)
            | (go_at_call 70; obtain ⟨c4, hc4⟩ := HN.out.k4; refine (replace_calls a0_0 HS1.out p q c4 _ HN.out.ql HN.out.pl HN.out.pq HN.out.k0 HN.out.k1 HN.out.k3 hc4 HN.out.fz HN.out.s0 HN.out.s1 HN.out.s2 HN.out.s3 _ HN.out.pn).mono ?_; clear hc4; rintro e w5 ⟨rfl, hb5⟩; rw [← HQ.out]; have n1 := (hb5.cell (p := ⟨w.heap.size, 1, none⟩) (by have := HS3.out; simp; omega)).trans m1; have n2 := (hb5.cell (p := ⟨w.heap.size, 2, none⟩) (by have := HS3.out; simp; omega)).trans m2; clear m1 m2; have HB5 := Lib.hid hb5; clear hb5))
          go_ret2
          exact ⟨by have h1 := HR.out; have h2 := (Prod.mk.inj h1).1; have h3 := (Prod.mk.inj h1).2; rw [← h2, ← h3]; unfold boxS quotedS; rw [← HQ.out]; rfl, HB3.out.trans (((below_alloc (Below.refl w3.heap.size w3) _).mono (by have := HS3.out; omega)).trans ((HN.out.bel.mono (by have := HS3.out; simp; omega)).trans (HB5.out.mono (by have := HS3.out; simp; omega))))⟩
        | false =>
          have HR := Lib.hid (Option.some.inj h)
          clear h
          go_enter Tryz.func22, Tryz.ntmps22
          go_wp2_with (first
            | (go_at_call 63; refine (HBX.out _ (HG.out.below (below_alloc (Below.refl _ _) _))).mono ?_; rintro e w1 ⟨rfl, hb1⟩; have k0 := (hb1.cell (p := ⟨w.heap.size, 0, none⟩) (by simp)).trans (World.cell?_alloc_at _ _ _ _ rfl); have k1 := (hb1.cell (p := ⟨w.heap.size, 1, none⟩) (by simp)).trans (World.cell?_alloc_at _ _ _ _ rfl); have k2 := (hb1.cell (p := ⟨w.heap.size, 2, none⟩) (by simp)).trans (World.cell?_alloc_at _ _ _ _ rfl); have HS := Lib.hid (show w.heap.size < w1.heap.size by have := hb1.size; simp at this; omega); have HB1 := Lib.hid (below_weaken (below_alloc (Below.refl _ _) _) (by simp) hb1); clear hb1)
            | (go_at_call 67; refine (list_step k a0_0 s' true at' HT.out w w1 HB1.out HS.out).mono ?_; rintro e w3 ⟨rfl, hb3, hat3, hj3, hs3⟩; have l0 := (hj3 0).trans k0; have l1 := (hj3 1).trans k1; have l2 := (hj3 2).trans k2; clear k0 k1 k2 hj3; have HB3 := Lib.hid hb3; have HS3 := Lib.hid hs3; clear hb3 hs3)
            | (go_at_call 69; refine (new_calls _ _ _ (by simp) (by simp) (by simp) (by simp)).mono ?_; rintro e w4 ⟨p, q, rfl, hn⟩; have m1 := (hn.bel.cell (p := ⟨w.heap.size, 1, none⟩) (by have := HS3.out; simp; omega)).trans ((World.cell?_alloc_past _ _ _ HS3.out).trans l1); have m2 := (hn.bel.cell (p := ⟨w.heap.size, 2, none⟩) (by have := HS3.out; simp; omega)).trans ((World.cell?_alloc_past _ _ _ HS3.out).trans l2); clear l0 l1 l2; have HN := Lib.hid hn; clear hn)
            | (go_at_call 70; obtain ⟨c4, hc4⟩ := HN.out.k4; refine (replace_calls a0_0 HS1.out p q c4 _ HN.out.ql HN.out.pl HN.out.pq HN.out.k0 HN.out.k1 HN.out.k3 hc4 HN.out.fz HN.out.s0 HN.out.s1 HN.out.s2 HN.out.s3 _ HN.out.pn).mono ?_; clear hc4; rintro e w5 ⟨rfl, hb5⟩; rw [← HQ.out]; have n1 := (hb5.cell (p := ⟨w.heap.size, 1, none⟩) (by have := HS3.out; simp; omega)).trans m1; have n2 := (hb5.cell (p := ⟨w.heap.size, 2, none⟩) (by have := HS3.out; simp; omega)).trans m2; clear m1 m2; have HB5 := Lib.hid hb5; clear hb5))
          go_ret2
          exact ⟨by have h1 := HR.out; have h2 := (Prod.mk.inj h1).1; have h3 := (Prod.mk.inj h1).2; rw [← h2, ← h3]; unfold boxS quotedS; rw [← HQ.out]; rfl, HB3.out.trans (((below_alloc (Below.refl w3.heap.size w3) _).mono (by have := HS3.out; omega)).trans ((HN.out.bel.mono (by have := HS3.out; simp; omega)).trans (HB5.out.mono (by have := HS3.out; simp; omega))))⟩
end Go.Proofs.YtokpnfljjjjikaaGreatDoor.QPath
