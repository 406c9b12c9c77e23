/- (*path.reader).inner: the contract. -/
import Derived.Test.YtokpnfljjjjikaaGreatDoorQCmdx3
import Derived.Test.YtokpnfljjjjikaaGreatDoorQCmdx4
import Derived.Test.YtokpnfljjjjikaaGreatDoorQCmdx6
import Derived.Test.YtokpnfljjjjikaaGreatDoorQCmdx8
import Derived.Deep.RegionHeld3
import Derived.Lib.Hide
namespace Go.Proofs.YtokpnfljjjjikaaGreatDoor.QCmd
open Go.RowKit Go.Proofs.YtokpnfljjjjikaaGreatDoorW.PrintWords Go.Proofs.YtokpnfljjjjikaaGreatDoorW.PrintLast Go.Proofs.YtokpnfljjjjikaaGreatDoorW.PrintMore

set_option linter.unusedSimpArgs false

def path_inner_1.f (k : Nat) (s : ByteArray) (p : Int) (rs : List ByteArray) : Option (Bool × ByteArray × Int × List ByteArray) :=
  (path_reader_take.f s p 64).bind fun t => (path_reader_domain.f k t.2.1 t.2.2).bind fun d => if rs.length < 8000000000000 then some (t.1 && d.2.1, d.2.2.1, d.2.2.2, rs ++ [d.1]) else none
def path_list_inner.l0 : Nat → ByteArray → Int → List ByteArray → Option (Bool × ByteArray × Int × List ByteArray)
  | 0, _, _, _ => none
  | k + 1, s, p, rs => (path_inner_1.f k s p rs).bind fun t => if t.1 = true then (path_reader_take.f t.2.1 t.2.2.1 44).bind fun c => if c.1 = true then path_list_inner.l0 k c.2.1 c.2.2 t.2.2.2 else some (true, c.2.1, c.2.2, t.2.2.2) else some (false, t.2.1, t.2.2.1, t.2.2.2)

structure Held (w0 we W : World) (g a b : Nat) (s : ByteArray) (p : Int) (v : Value) (rs : List ByteArray) : Prop where
  st : IsS82 w0 W g s p
  bl : Below w0.heap.size w0 W
  kp : KeepBut we W g none
  ha : W.heap[a]? = some (.cells #[.pointer (some ⟨g, 0, none⟩)] 80 (0, 0))
  hb : W.heap[b]? = some (.cells #[.bool false, v, .string ⟨#[]⟩, .string ⟨#[]⟩, .bool false] 32 (0, 0))
  hr : Kd.R Kd.string 9 W we.heap.size (fun _ => True) v rs
  sz : w0.heap.size ≤ we.heap.size
  hc : W.heap[we.heap.size + 1]? = some (.cells #[.bool false, .slice none 0 0, .string ⟨#[]⟩, .string ⟨#[]⟩, .bool false] 32 (0, 0))
  ga : we.heap.size ≤ a
  gb : we.heap.size + 1 < b
section
variable {w0 we W W1 : World} {g a b : Nat} {s s1 : ByteArray} {p p1 : Int} {v : Value} {rs : List ByteArray}
theorem Held.call (H : Held w0 we W g a b s p v rs) (hi : IsS82 w0 W1 g s1 p1) (hb : Below w0.heap.size w0 W1) (hk : KeepBut W W1 g none) : Held w0 we W1 g a b s1 p1 v rs where
  st := hi
  bl := hb
  kp := H.kp.trans hk (.inl rfl)
  ha := KeepBut.blk hk H.ha (IsS82.ne_blk H.st H.ha (by decide)).symm (by simp)
  hb := KeepBut.blk hk H.hb (IsS82.ne_blk H.st H.hb (by decide)).symm (by simp)
  hr := Kd.R_mono (Kd.R_keep (IsS82.apart H.st H.hr (by decide)) hk (fun _ h => h.2)) (fun _ h => h.1)
  sz := H.sz
  hc := KeepBut.blk hk H.hc (IsS82.ne_blk H.st H.hc (by decide)).symm (by simp)
  ga := H.ga
  gb := H.gb
theorem Held.ca (H : Held w0 we W g a b s p v rs) : W.cell? ⟨a, 0, none⟩ = some (.pointer (some ⟨g, 0, none⟩)) := (blk_cell H.ha 0).trans rfl
theorem Held.cb (H : Held w0 we W g a b s p v rs) : W.cell? ⟨b, 1, none⟩ = some v := (blk_cell H.hb 1).trans rfl
theorem Held.fb (H : Held w0 we W g a b s p v rs) (j : Nat) : W.frozen? ⟨b, j, none⟩ = false := blk_frozen H.hb j
theorem Held.alloc (H : Held w0 we W g a b s p v rs) (o : Obj) : Held w0 we (W.alloc o) g a b s p v rs :=
  H.call (H.st.alloc o) (below_alloc H.bl o) (keep_alloc (KeepBut.refl _ _ _) o)
theorem Held.app (H : Held w0 we W g a b s p v rs) {v1 : Value} {W2 : World} {n : ByteArray} (ho : Kd.R Kd.string 9 W2 we.heap.size (fun _ => True) v1 (rs ++ [n])) (hb : Below we.heap.size W W2) (hg : W.grownBy W2 v.ownBlock) : Held w0 we (W2.setCell ⟨b, 1, none⟩ v1) g a b s p v1 (rs ++ [n]) := by
  have hB : W2.heap[b]? = some (.cells #[.bool false, v, .string ⟨#[]⟩, .string ⟨#[]⟩, .bool false] 32 (0, 0)) := blk_grown H.hb hg (Kd.R_ne H.hr H.hb (by decide))
  have hA : W2.heap[a]? = some (.cells #[.pointer (some ⟨g, 0, none⟩)] 80 (0, 0)) := blk_grown H.ha hg (Kd.R_ne H.hr H.ha (by decide))
  have hS : IsS82 w0 W2 g s p := IsS82.grown H.st hg (IsS82.own_ne H.st H.hr (by decide))
  have hab : a ≠ b := by
    rintro rfl
    rw [hA] at hB
    simp at hB
  have hgb : g ≠ b := IsS82.ne_blk hS hB (by decide)
  have hC : W2.heap[we.heap.size + 1]? = some (.cells #[.bool false, .slice none 0 0, .string ⟨#[]⟩, .string ⟨#[]⟩, .bool false] 32 (0, 0)) := blk_grown H.hc hg (Kd.R_ne H.hr H.hc (by decide))
  have hG := H.gb
  refine ⟨IsS82.far hS hgb _, ?_, ?_, ?_, ?_, ?_, H.sz, blk_far hC (by show _ ≠ b; omega) _, H.ga, H.gb⟩
  · exact (below_weaken H.bl H.sz hb).setCell (Nat.le_trans H.sz (by show _ ≤ b; omega)) _
  · exact keep_far (KeepBut.trans H.kp (KeepBut.of_grown hg g) (Kd.R_base2 H.hr)) (by show _ ≤ b; omega) _
  · exact blk_far hA hab _
  · have := blk_set hB 1 v1
    simpa using this
  · refine Kd.R_mono (Kd.R_far (Kd.R_mono (Kd.R_bound ho) (ok' := fun k => k ≠ b) ?_) (fun k hk => hk) v1) (fun _ _ => trivial)
    rintro k ⟨_, _, _, q, hq, cells, hc⟩ rfl
    rw [hB] at hc
    injection hc with hc
    injection hc with _ hc
    have h1 : q = 9 ∨ q ∈ Kd.string.E := by simpa using hq
    rcases h1 with h1 | h1
    · exact absurd (hc.trans h1) (by decide)
    · cases h1
end
set_option maxRecDepth 100000 in
set_option maxHeartbeats 8000000 in
theorem path_inner_1.calls (k g a b : Nat) (s : ByteArray) (p : Int) (v : Value) (rs : List ByteArray) (r1 : Bool) (s1 : ByteArray) (p1 : Int) (rs1 : List ByteArray) (w0 we w : World) (H : Held w0 we w g a b s p v rs) (h : path_inner_1.f k s p rs = some (r1, s1, p1, rs1)) :
    Calls Tryz.prog 116 #[.pointer (some ⟨a, 0, none⟩), .pointer (some ⟨b, 0, none⟩)] w fun e w' => e = .returned (.bool r1) ∧ ∃ v1, Held w0 we w' g a b s1 p1 v1 rs1 := by
  unfold path_inner_1.f at h
  obtain ⟨⟨t1, t2, t3⟩, A1, h⟩ := Option.bind_eq_some_iff.mp h
  obtain ⟨⟨d1, d2, d3, d4⟩, A2, h⟩ := Option.bind_eq_some_iff.mp h
  dsimp only at A1 A2 h
  have ht : t1 = true ∨ t1 = false := by cases t1 <;> simp
  by_cases hl : rs.length < 8000000000000
  case neg => rw [if_neg hl] at h; cases h
  rw [if_pos hl] at h
  simp only [Option.some.injEq, Prod.mk.injEq] at h
  obtain ⟨rfl, rfl, rfl, rfl⟩ := h
  have HL := Aside0.mk hl
  have HA1 := Aside0.mk A1
  have HA2 := Aside0.mk A2
  have HH := Aside0.mk H
  have hca := H.ca
  clear hl A1 A2 H
  go_enter Tryz.func116, Tryz.ntmps116
  go_wp2_with (first
    | (go_at_call 56; refine (path_reader_take.calls g s p 64 t1 t2 t3 w0 w HH.out.st HH.out.bl HA1.out).mono ?_; rintro e w1 ⟨rfl, hi, hb, hk⟩; have HH1 := Aside0.mk (HH.out.call hi hb hk); clear hi hb hk; have hca1 := HH1.out.ca)
    | (go_at_call 80; refine (path_reader_domain.calls k g t2 t3 d1 d2 d3 d4 w0 w1 HH1.out.st HH1.out.bl HA2.out).mono ?_; rintro e w2 ⟨rfl, hi, hb, hk⟩; have HH2 := Aside0.mk (HH1.out.call hi hb hk); clear hi hb hk; have hcb2 := HH2.out.cb)
    | ((with_reducible refine gate_builtin (b := .append) (xs := #[.tmp 14, .tmp 16]) rfl ?_); at_builtin; refine Kd.R_append Kd.string we.heap.size rfl (.tmp 14) (.tmp 16) 28 9 (.string ⟨#[]⟩) 16 rfl Tryz.underlying28 info9 rfl (by decide) (by omega) v rs d1 [.string d1] (fun _ => True) (fun _ => False) rfl (by first | (go_simp; done) | (go_simp; rfl)) ?aP (fun _ hk => hk.elim) ?aF ?aO (Below.refl _ _) ?aS ?aL ?_; (case aP => exact rfl); (case aF => exact (fun _ _ => trivial)); (case aO => exact HH2.out.hr); (case aS => exact keep_size HH2.out.kp); (case aL => have := HL.out; omega); intro v3 w3 ho hb hg hat; obtain ⟨A3, c3, rfl⟩ := Kd.R_slice ho; have HH3 := Aside0.mk (HH2.out.app ho hb hg); have hfb3 := (blk_frozen (blk_grown HH2.out.hb hg (Kd.R_ne HH2.out.hr HH2.out.hb (by decide))) 1); have hcb3 := (blk_cell (blk_grown HH2.out.hb hg (Kd.R_ne HH2.out.hr HH2.out.hb (by decide))) 1).trans rfl; clear ho hb hg hat))
  all_goals
    go_ret
    exact ⟨by first | rfl | (simp [*]; done) | (rename_i ht; simp [ht]; done) | (rename_i _ ht; simp [ht]; done), _, by have h1 := HH3.out; rw [List.length_append] at h1; exact h1⟩
set_option maxRecDepth 100000 in
set_option maxHeartbeats 8000000 in
theorem path_list_inner.calls (k g a b : Nat) (s : ByteArray) (p : Int) (v : Value) (rs : List ByteArray) (r1 : Bool) (s1 : ByteArray) (p1 : Int) (rs1 : List ByteArray) (w0 we w : World) (H : Held w0 we w g a b s p v rs) (h : path_list_inner.l0 k s p rs = some (r1, s1, p1, rs1)) :
    Calls Tryz.prog 67 #[.pointer (some ⟨g, 0, none⟩), .int .u8 44, .func (.func 116) #[] #[.pointer (some ⟨a, 0, none⟩), .pointer (some ⟨b, 0, none⟩)]] w fun e w' => e = .returned (.bool r1) ∧ ∃ v1, Held w0 we w' g a b s1 p1 v1 rs1 := by
  have HH := Aside0.mk H
  have HS := Aside0.mk h
  clear H h
  go_enter Tryz.func67, Tryz.ntmps67
  go_wp2
  go_loopg [] k (fun kq w' => ∃ (s2 : ByteArray) (p2 : Int) (v2 : Value) (rs2 : List ByteArray), Aside0 (path_list_inner.l0 kq s2 p2 rs2 = some (r1, s1, p1, rs1)) ∧ Aside0 (Held w0 we w' g a b s2 p2 v2 rs2))
  case atStart => exact ⟨s, p, v, rs, HS, HH⟩
  case round =>
    clear HS HH
    obtain ⟨s2, p2, v2, rs2, HA, HH⟩ := hrel
    cases gk with
    | zero => exact absurd HA.out (by simp [path_list_inner.l0])
    | succ k1 =>
      have h := HA.out
      clear HA
      simp only [path_list_inner.l0] at h
      obtain ⟨⟨t1, t2, t3, t4⟩, A1, h⟩ := Option.bind_eq_some_iff.mp h
      dsimp only at h
      have HA1 := Aside0.mk A1
      clear A1
      cases t1 with
      | true =>
        rw [if_pos rfl] at h
        obtain ⟨⟨c1, c2, c3⟩, A2, h⟩ := Option.bind_eq_some_iff.mp h
        dsimp only at A2 h
        have HA2 := Aside0.mk A2
        have HH' := Aside0.mk h
        clear A2 h
        cases c1 with
        | true =>
          have HN := Aside0.mk (show path_list_inner.l0 k1 c2 c3 t4 = some (r1, s1, p1, rs1) from (if_pos rfl).symm.trans HH'.out)
          clear HH'
          go_wp2_with (first
            | (go_at_call 116; refine (path_inner_1.calls k1 g a b s2 p2 v2 rs2 true t2 t3 t4 w0 we _ HH.out HA1.out).mono ?_; rintro e w2 ⟨rfl, v3, h3⟩; have HH1 := Aside0.mk h3; clear h3)
            | (go_at_call 56; refine (path_reader_take.calls g t2 t3 44 true c2 c3 w0 _ HH1.out.st HH1.out.bl HA2.out).mono ?_; rintro e w3 ⟨rfl, hi, hb, hk⟩; have HH2 := Aside0.mk (HH1.out.call hi hb hk); clear hi hb hk))
          go_roundg k1
          case measure => omega
          case rel => exact ⟨c2, c3, _, t4, HN, HH2⟩
        | false =>
          have hN := (if_neg (by decide)).symm.trans HH'.out
          simp only [Option.some.injEq, Prod.mk.injEq] at hN
          obtain ⟨rfl, rfl, rfl, rfl⟩ := hN
          clear HH'
          go_wp2_with (first
            | (go_at_call 116; refine (path_inner_1.calls k1 g a b s2 p2 v2 rs2 true t2 t3 t4 w0 we _ HH.out HA1.out).mono ?_; rintro e w2 ⟨rfl, v3, h3⟩; have HH1 := Aside0.mk h3; clear h3)
            | (go_at_call 56; refine (path_reader_take.calls g t2 t3 44 false c2 c3 w0 _ HH1.out.st HH1.out.bl HA2.out).mono ?_; rintro e w3 ⟨rfl, hi, hb, hk⟩; have HH2 := Aside0.mk (HH1.out.call hi hb hk); clear hi hb hk))
          go_ret
          exact ⟨rfl, _, HH2.out⟩
      | false =>
        rw [if_neg (by decide)] at h
        simp only [Option.some.injEq, Prod.mk.injEq] at h
        obtain ⟨rfl, rfl, rfl, rfl⟩ := h
        go_wp2_with (first
          | (go_at_call 116; refine (path_inner_1.calls k1 g a b s2 p2 v2 rs2 false t2 t3 t4 w0 we _ HH.out HA1.out).mono ?_; rintro e w2 ⟨rfl, v3, h3⟩; have HH1 := Aside0.mk h3; clear h3))
        go_ret
        exact ⟨rfl, _, HH1.out⟩
def path_inner.f3 (k : Nat) (s : ByteArray) (p : Int) (rs : List ByteArray) : Option (Bool × List ByteArray × ByteArray × ByteArray × Bool × Bool × ByteArray × Int) :=
  (path_reader_box.f k s p).bind fun m => some (false, rs, m.1, m.2.1, m.2.2.1, m.2.2.2.1, m.2.2.2.2.1, m.2.2.2.2.2)
def path_inner.f2 (k : Nat) (s : ByteArray) (p : Int) : Option (Bool × List ByteArray × ByteArray × ByteArray × Bool × Bool × ByteArray × Int) :=
  (path_reader_peek.f s p).bind fun c => if c.1 = 64 then (path_list_inner.l0 k c.2.1 c.2.2 []).bind fun l => if l.1 = true then (path_reader_take.f l.2.1 l.2.2.1 58).bind fun t => if t.1 = true then path_inner.f3 k t.2.1 t.2.2 l.2.2.2 else some (false, [], ⟨#[]⟩, ⟨#[]⟩, false, false, t.2.1, t.2.2) else some (false, [], ⟨#[]⟩, ⟨#[]⟩, false, false, l.2.1, l.2.2.1) else path_inner.f3 k c.2.1 c.2.2 []
def aloneText : ByteArray := ⟨#[112, 111, 115, 116, 109, 97, 115, 116, 101, 114]⟩
def isAlone (s : ByteArray) (p : Int) : Bool := decide (p + 10 < (s.size : Int)) && (path_small.g (s.extract p.toNat (p + 10).toNat)).toList == ([112, 111, 115, 116, 109, 97, 115, 116, 101, 114] : List UInt8) && (bt s (p + 10)) == 62
def path_inner.f (k : Nat) (s : ByteArray) (p : Int) : Option (Bool × List ByteArray × ByteArray × ByteArray × Bool × Bool × ByteArray × Int) :=
  if 0 ≤ p ∧ p ≤ (s.size : Int) ∧ (s.size : Int) < 4611686018427387904 then
    (if isAlone s p = true then some (false, [], aloneText, ⟨#[]⟩, false, true, s, p + 10) else path_inner.f2 k s p)
  else none
structure Front (w0 w W : World) (g : Nat) (s : ByteArray) (p : Int) : Prop where
  st : IsS82 w0 W g s p
  bl : Below w0.heap.size w0 W
  sz : w0.heap.size ≤ w.heap.size
  kp : KeepBut w W g none
  ha : W.heap[w.heap.size]? = some (.cells #[.pointer (some ⟨g, 0, none⟩)] 80 (0, 0))
  hc : W.heap[w.heap.size + 1]? = some (.cells #[.bool false, .slice none 0 0, .string ⟨#[]⟩, .string ⟨#[]⟩, .bool false] 32 (0, 0))
section
variable {w0 w W W1 : World} {g a b : Nat} {s : ByteArray} {p : Int} {v : Value} {rs : List ByteArray}
theorem Front.begin (hI : IsS82 w0 w g s p) (hB : Below w0.heap.size w0 w) : Front w0 w ((w.alloc (.cells #[.pointer (some ⟨g, 0, none⟩)] 80)).alloc (.cells #[.bool false, .slice none 0 0, .string ⟨#[]⟩, .string ⟨#[]⟩, .bool false] 32)) g s p where
  st := (hI.alloc _).alloc _
  bl := below_alloc (below_alloc hB _) _
  sz := hB.size
  kp := keep_alloc (keep_alloc (KeepBut.refl _ _ _) _) _
  ha := by
    refine blk_alloc ?_ _
    simpa using heap_alloc_new w _
  hc := by
    have := heap_alloc_new (w.alloc (.cells #[.pointer (some ⟨g, 0, none⟩)] 80)) (.cells #[.bool false, .slice none 0 0, .string ⟨#[]⟩, .string ⟨#[]⟩, .bool false] 32)
    simpa using this
theorem Front.below (H : Front w0 w W g s p) (hb : Below W.heap.size W W1) : Front w0 w W1 g s p where
  st := H.st.below hb
  bl := below_weaken H.bl H.bl.size hb
  sz := H.sz
  kp := H.kp.trans (KeepBut.of_below hb g none) (.inl rfl)
  ha := (hb.block _ (blk_lt H.ha)).trans H.ha
  hc := (hb.block _ (blk_lt H.hc)).trans H.hc
theorem Front.set (H : Front w0 w W g s p) (q : Int) : Front w0 w (W.setCell ⟨g, 1, none⟩ (.int .i64 q)) g s q where
  st := H.st.set_1 q
  bl := below_set H.bl H.st.ge
  sz := H.sz
  kp := H.kp.set_ _ _
  ha := blk_far H.ha (IsS82.ne_blk H.st H.ha (by decide)).symm _
  hc := blk_far H.hc (IsS82.ne_blk H.st H.hc (by decide)).symm _
theorem Front.held (H : Front w0 w W g s p) : Held w0 w (W.alloc (.cells #[.bool false, .slice none 0 0, .string ⟨#[]⟩, .string ⟨#[]⟩, .bool false] 32)) g w.heap.size W.heap.size s p (.slice none 0 0) [] where
  st := H.st.alloc _
  bl := below_alloc H.bl _
  kp := keep_alloc H.kp _
  ha := blk_alloc H.ha _
  hb := by simpa using heap_alloc_new W _
  hr := Kd.R_nil _ _ _ _ _
  sz := H.sz
  hc := blk_alloc H.hc _
  ga := Nat.le_refl _
  gb := blk_lt H.hc
theorem store5 {c : Nat} {y0 y1 y2 y3 y4 : Value} (x0 x1 x2 x3 x4 : Value) (hst : IsS82 w0 W g s p) (hbl : Below w0.heap.size w0 W) (hkp : KeepBut w W g none) (hsz : w0.heap.size ≤ w.heap.size) (hgc : w.heap.size ≤ c)
    (hc : W.heap[c]? = some (.cells #[y0, y1, y2, y3, y4] 32 (0, 0))) (hW : W1 = ((((W.setCell ⟨c, 0, none⟩ x0).setCell ⟨c, 1, none⟩ x1).setCell ⟨c, 2, none⟩ x2).setCell ⟨c, 3, none⟩ x3).setCell ⟨c, 4, none⟩ x4) :
    W1.heap[c]? = some (.cells #[x0, x1, x2, x3, x4] 32 (0, 0)) ∧ IsS82 w0 W1 g s p ∧ Below w0.heap.size w0 W1 ∧ KeepBut w W1 g none ∧ ∀ (v : Value) (xs : List ByteArray), Kd.R Kd.string 9 W w.heap.size (fun _ => True) v xs → Kd.R Kd.string 9 W1 w.heap.size (fun _ => True) v xs := by
  subst hW
  have hgc2 : g ≠ c := IsS82.ne_blk hst hc (by decide)
  refine ⟨?_, ?_, ?_, ?_, ?_⟩
  · refine blk_put (cs := #[x0, x1, x2, x3, y4]) ?_ 4 _ rfl
    refine blk_put (cs := #[x0, x1, x2, y3, y4]) ?_ 3 _ rfl
    refine blk_put (cs := #[x0, x1, y2, y3, y4]) ?_ 2 _ rfl
    refine blk_put (cs := #[x0, y1, y2, y3, y4]) ?_ 1 _ rfl
    exact blk_put hc 0 _ rfl
  · exact ((((hst.far hgc2 _).far hgc2 _).far hgc2 _).far hgc2 _).far hgc2 _
  · have h0 := Nat.le_trans hsz hgc
    exact below_set (below_set (below_set (below_set (below_set hbl h0) h0) h0) h0) h0
  · exact keep_far (keep_far (keep_far (keep_far (keep_far hkp hgc _) hgc _) hgc _) hgc _) hgc _
  · intro v xs ho
    have hne : ∀ (W2 : World), W2.heap[c]? = some (.cells #[y0, y1, y2, y3, y4] 32 (0, 0)) → Kd.R Kd.string 9 W2 w.heap.size (fun _ => True) v xs → Kd.R Kd.string 9 W2 w.heap.size (fun k => k ≠ c) v xs := by
      intro W2 hB h1
      refine Kd.R_mono (Kd.R_bound h1) ?_
      rintro k ⟨_, _, _, q, hq, cells, hcc⟩ rfl
      rw [hB] at hcc
      injection hcc with hcc
      injection hcc with _ hcc
      have h1 : q = 9 ∨ q ∈ Kd.string.E := by simpa using hq
      rcases h1 with h1 | h1
      · exact absurd (hcc.trans h1) (by decide)
      · cases h1
    have h1 := hne W hc ho
    exact Kd.R_mono (Kd.R_far (Kd.R_far (Kd.R_far (Kd.R_far (Kd.R_far h1 (fun _ h => h) x0) (fun _ h => h) x1) (fun _ h => h) x2) (fun _ h => h) x3) (fun _ h => h) x4) (fun _ _ => trivial)
theorem Held.box (H : Held w0 w W g a b s p v rs) (x2 x3 x4 : Value) (hW : W1 = ((W.setCell ⟨b, 2, none⟩ x2).setCell ⟨b, 3, none⟩ x3).setCell ⟨b, 4, none⟩ x4) :
    W1.heap[b]? = some (.cells #[.bool false, v, x2, x3, x4] 32 (0, 0)) ∧ IsS82 w0 W1 g s p ∧ Below w0.heap.size w0 W1 ∧ KeepBut w W1 g none ∧ Kd.R Kd.string 9 W1 w.heap.size (fun _ => True) v rs ∧ W1.heap[w.heap.size + 1]? = some (.cells #[.bool false, .slice none 0 0, .string ⟨#[]⟩, .string ⟨#[]⟩, .bool false] 32 (0, 0)) := by
  subst hW
  have hG := H.gb
  have hgb : g ≠ b := IsS82.ne_blk H.st H.hb (by decide)
  have hcb : w.heap.size + 1 ≠ b := by omega
  have hwb : w.heap.size ≤ b := by omega
  refine ⟨?_, ((H.st.far hgb _).far hgb _).far hgb _, ?_, keep_far (keep_far (keep_far H.kp hwb _) hwb _) hwb _, ?_, blk_far (blk_far (blk_far H.hc hcb _) hcb _) hcb _⟩
  · refine blk_put (cs := #[.bool false, v, x2, x3, .bool false]) ?_ 4 _ rfl
    refine blk_put (cs := #[.bool false, v, x2, .string ⟨#[]⟩, .bool false]) ?_ 3 _ rfl
    exact blk_put H.hb 2 _ rfl
  · have h0 := Nat.le_trans H.sz hwb
    exact below_set (below_set (below_set H.bl h0) h0) h0
  · have h1 : Kd.R Kd.string 9 W w.heap.size (fun k => k ≠ b) v rs := by
      refine Kd.R_mono (Kd.R_bound H.hr) ?_
      rintro k ⟨_, _, _, q, hq, cells, hcc⟩ rfl
      rw [H.hb] at hcc
      injection hcc with hcc
      injection hcc with _ hcc
      have h1 : q = 9 ∨ q ∈ Kd.string.E := by simpa using hq
      rcases h1 with h1 | h1
      · exact absurd (hcc.trans h1) (by decide)
      · cases h1
    exact Kd.R_mono (Kd.R_far (Kd.R_far (Kd.R_far h1 (fun _ h => h) x2) (fun _ h => h) x3) (fun _ h => h) x4) (fun _ _ => trivial)
end
set_option maxRecDepth 100000 in
set_option maxHeartbeats 8000000 in
theorem path_inner.calls (k g : Nat) (s : ByteArray) (p : Int) (r1 : Bool) (r2 : List ByteArray) (r3 r4 : ByteArray) (r5 r6 : Bool) (r7 : ByteArray) (r8 : Int) (w0 w : World) (hI : IsS82 w0 w g s p) (hB : Below w0.heap.size w0 w) (hG : GlobalsOK w0) (h : path_inner.f k s p = some (r1, r2, r3, r4, r5, r6, r7, r8)) :
    Calls Tryz.prog 57 #[.pointer (some ⟨g, 0, none⟩)] w fun e w' => ∃ v1_ : Value, e = .returned (.tuple #[.agg #[.bool r1, v1_, .string r3, .string r4, .bool r5], .bool r6]) ∧ Kd.R Kd.string 9 w' w.heap.size (fun _ => True) v1_ r2 ∧ IsS82 w0 w' g r7 r8 ∧ Below w0.heap.size w0 w' ∧ KeepBut w w' g none := by
  unfold path_inner.f at h
  by_cases hp : 0 ≤ p ∧ p ≤ (s.size : Int) ∧ (s.size : Int) < 4611686018427387904
  case neg => rw [if_neg hp] at h; cases h
  rw [if_pos hp] at h
  have HF := Aside0.mk (Front.begin hI hB)
  have HG := Aside0.mk hG
  have HH := Aside0.mk h
  clear hI hB hG h
  obtain ⟨hp0, hp1, hp2⟩ := hp
  go_enter Tryz.func57, Tryz.ntmps57
  go_wp2
  generalize ((w.alloc (.cells #[.pointer (some ⟨g, 0, none⟩)] 80)).alloc (.cells #[.bool false, .slice none 0 0, .string ⟨#[]⟩, .string ⟨#[]⟩, .bool false] 32)) = w1 at HF ⊢
  have hw1 : IntKind.i64.wrap ((s.size : Int) - p) = (s.size : Int) - p := (i64_w _).trans (by unfold wrap64; omega)
  have hw2 : IntKind.i64.wrap (p + 10) = p + 10 := (i64_w _).trans (by unfold wrap64; omega)
  have hca : w1.cell? ⟨w.heap.size, 0, none⟩ = some (.pointer (some ⟨g, 0, none⟩)) := (blk_cell HF.out.ha 0).trans rfl
  obtain ⟨hgb, _⟩ := HF.out.st
  have hc0 : w1.cell? ⟨g, 0, none⟩ = some (.string s) := (blk_cell hgb 0).trans rfl
  have hc1 : w1.cell? ⟨g, 1, none⟩ = some (.int .i64 p) := (blk_cell hgb 1).trans rfl
  clear hgb
  by_cases hr : p + 10 < (s.size : Int)
  case neg =>
    have HA := Aside0.mk (show isAlone s p = false by unfold isAlone; rw [decide_eq_false hr]; rfl)
    have hd : decide (10 < (s.size : Int) - p) = false := decide_eq_false (by omega)
    go_quiet (fail)
    have hW := pw_below_drewN (Below.refl w1.heap.size w1)
    have HFA := Aside0.mk (fun n => HF.out.below (hW n))
    clear hW
    generalize hWn : World.drewN w1 _ = w3
    have HF3 := Aside0.mk (show Front w0 w w3 g s p from hWn ▸ HFA.out _)
    clear HFA hWn
    have H2 := Aside0.mk (show path_inner.f2 k s p = some (r1, r2, r3, r4, r5, r6, r7, r8) from (if_neg (by rw [HA.out]; decide)).symm.trans HH.out)
    clear HA HH
    have HE := Aside0.mk HF3.out.held
    have hcaE := HE.out.ca
    have h := H2.out
    clear H2
    unfold path_inner.f2 at h
    obtain ⟨⟨c1, c2, c3⟩, A1, h⟩ := Option.bind_eq_some_iff.mp h
    dsimp only at A1 h
    have HA1 := Aside0.mk A1
    clear A1
    cases h64 : (c1 == 64) with
    | false =>
      rw [if_neg (by simpa using h64)] at h
      unfold path_inner.f3 at h
      obtain ⟨⟨m1, m2, m3, m4, m5, m6⟩, Ab, h⟩ := Option.bind_eq_some_iff.mp h
      dsimp only at Ab h
      simp only [Option.some.injEq, Prod.mk.injEq] at h
      obtain ⟨rfl, rfl, rfl, rfl, rfl, rfl, rfl, rfl⟩ := h
      have HAb := Aside0.mk Ab
      clear Ab
      go_wp2_with (first
        | (go_at_call 115; refine (path_reader_peek.calls g s p c1 c2 c3 w0 _ HE.out.st HE.out.bl HA1.out).mono ?_; rintro e w4 ⟨rfl, hi, hb, hk⟩; have HE4 := Aside0.mk (HE.out.call hi hb hk); have hca4 := HE4.out.ca; clear hi hb hk)
        | (go_at_call 71; refine (path_reader_box.calls k g c2 c3 m1 m2 m3 m4 m5 m6 w0 _ HE4.out.st HE4.out.bl HG.out HAb.out).mono ?_; rintro e w9 ⟨rfl, hi, hb, hk⟩; have HE9 := Aside0.mk (HE4.out.call hi hb hk); have hbf0 := HE9.out.fb 0; have hbf1 := HE9.out.fb 1; have hbf2 := HE9.out.fb 2; have hbf3 := HE9.out.fb 3; have hbf4 := HE9.out.fb 4; have hbc0 : w9.cell? ⟨w3.heap.size, 0, none⟩ = some (Value.bool false) := (blk_cell HE9.out.hb 0).trans rfl; have hbc1 : w9.cell? ⟨w3.heap.size, 1, none⟩ = some (Value.slice none 0 0) := (blk_cell HE9.out.hb 1).trans rfl; have hbc2 : w9.cell? ⟨w3.heap.size, 2, none⟩ = some (Value.string ⟨#[]⟩) := (blk_cell HE9.out.hb 2).trans rfl; have hbc3 : w9.cell? ⟨w3.heap.size, 3, none⟩ = some (Value.string ⟨#[]⟩) := (blk_cell HE9.out.hb 3).trans rfl; have hbc4 : w9.cell? ⟨w3.heap.size, 4, none⟩ = some (Value.bool false) := (blk_cell HE9.out.hb 4).trans rfl; have hkf0 := blk_frozen HE9.out.hc 0; have hkf1 := blk_frozen HE9.out.hc 1; have hkf2 := blk_frozen HE9.out.hc 2; have hkf3 := blk_frozen HE9.out.hc 3; have hkf4 := blk_frozen HE9.out.hc 4; have hkc0 : w9.cell? ⟨w.heap.size + 1, 0, none⟩ = some (Value.bool false) := (blk_cell HE9.out.hc 0).trans rfl; have hkc1 : w9.cell? ⟨w.heap.size + 1, 1, none⟩ = some (Value.slice none 0 0) := (blk_cell HE9.out.hc 1).trans rfl; have hkc2 : w9.cell? ⟨w.heap.size + 1, 2, none⟩ = some (Value.string ⟨#[]⟩) := (blk_cell HE9.out.hc 2).trans rfl; have hkc3 : w9.cell? ⟨w.heap.size + 1, 3, none⟩ = some (Value.string ⟨#[]⟩) := (blk_cell HE9.out.hc 3).trans rfl; have hkc4 : w9.cell? ⟨w.heap.size + 1, 4, none⟩ = some (Value.bool false) := (blk_cell HE9.out.hc 4).trans rfl; have hnb : w.heap.size + 1 ≠ w3.heap.size := Nat.ne_of_lt HE9.out.gb; have hnb2 : w3.heap.size ≠ w.heap.size + 1 := (Nat.ne_of_lt HE9.out.gb).symm; clear hi hb hk))
      have H8 := HE9.out.box (.string m1) (.string m2) (.bool m3) rfl
      have H9 := store5 (.bool false) (.slice none 0 0) (.string m1) (.string m2) (.bool m3) H8.2.1 H8.2.2.1 H8.2.2.2.1 HE9.out.sz (Nat.le_succ _) H8.2.2.2.2.2 rfl
      refine bodyPost_ret (results_ct rfl _ _ (w.heap.size + 1) 32 #[.bool false, .slice none 0 0, .string m1, .string m2, .bool m3] (0, 0) _ rfl H9.1 Tryz.underlying32 rfl (by kernel_rfl)) rfl ?_
      exact ⟨_, rfl, H9.2.2.2.2 _ _ H8.2.2.2.2.1, H9.2.1, H9.2.2.1, H9.2.2.2.1⟩
    | true =>
      rw [if_pos (by simpa using h64)] at h
      obtain ⟨⟨l1, l2, l3, l4⟩, A2, h⟩ := Option.bind_eq_some_iff.mp h
      dsimp only at A2 h
      have HA2 := Aside0.mk A2
      clear A2
      cases l1 with
      | false =>
        rw [if_neg (by decide)] at h
        simp only [Option.some.injEq, Prod.mk.injEq] at h
        obtain ⟨rfl, rfl, rfl, rfl, rfl, rfl, rfl, rfl⟩ := h
        go_wp2_with (first
          | (go_at_call 115; refine (path_reader_peek.calls g s p c1 c2 c3 w0 _ HE.out.st HE.out.bl HA1.out).mono ?_; rintro e w4 ⟨rfl, hi, hb, hk⟩; have HE4 := Aside0.mk (HE.out.call hi hb hk); have hca4 := HE4.out.ca; clear hi hb hk)
          | (go_at_call 67; refine (path_list_inner.calls k g _ _ c2 c3 _ [] false l2 l3 l4 w0 w _ HE4.out HA2.out).mono ?_; rintro e w5 ⟨rfl, v5, h5⟩; have HE5 := Aside0.mk h5; have hca5 := HE5.out.ca; clear h5; have hkf0 := blk_frozen HE5.out.hc 0; have hkf1 := blk_frozen HE5.out.hc 1; have hkf2 := blk_frozen HE5.out.hc 2; have hkf3 := blk_frozen HE5.out.hc 3; have hkf4 := blk_frozen HE5.out.hc 4; have hkc0 : w5.cell? ⟨w.heap.size + 1, 0, none⟩ = some (Value.bool false) := (blk_cell HE5.out.hc 0).trans rfl; have hkc1 : w5.cell? ⟨w.heap.size + 1, 1, none⟩ = some (Value.slice none 0 0) := (blk_cell HE5.out.hc 1).trans rfl; have hkc2 : w5.cell? ⟨w.heap.size + 1, 2, none⟩ = some (Value.string ⟨#[]⟩) := (blk_cell HE5.out.hc 2).trans rfl; have hkc3 : w5.cell? ⟨w.heap.size + 1, 3, none⟩ = some (Value.string ⟨#[]⟩) := (blk_cell HE5.out.hc 3).trans rfl; have hkc4 : w5.cell? ⟨w.heap.size + 1, 4, none⟩ = some (Value.bool false) := (blk_cell HE5.out.hc 4).trans rfl))
        have H9 := store5 (W := w5) (.bool false) (.slice none 0 0) (.string ⟨#[]⟩) (.string ⟨#[]⟩) (.bool false) HE5.out.st HE5.out.bl HE5.out.kp HE5.out.sz (Nat.le_succ _) HE5.out.hc rfl
        refine bodyPost_ret (results_ct rfl _ _ (w.heap.size + 1) 32 #[.bool false, .slice none 0 0, .string ⟨#[]⟩, .string ⟨#[]⟩, .bool false] (0, 0) _ rfl H9.1 Tryz.underlying32 rfl (by kernel_rfl)) rfl ?_
        exact ⟨_, rfl, Kd.R_nil _ _ _ _ _, H9.2.1, H9.2.2.1, H9.2.2.2.1⟩
      | true =>
        rw [if_pos rfl] at h
        obtain ⟨⟨u1, u2, u3⟩, A3, h⟩ := Option.bind_eq_some_iff.mp h
        dsimp only at A3 h
        have HA3 := Aside0.mk A3
        clear A3
        cases u1 with
        | false =>
          rw [if_neg (by decide)] at h
          simp only [Option.some.injEq, Prod.mk.injEq] at h
          obtain ⟨rfl, rfl, rfl, rfl, rfl, rfl, rfl, rfl⟩ := h
          go_wp2_with (first
            | (go_at_call 115; refine (path_reader_peek.calls g s p c1 c2 c3 w0 _ HE.out.st HE.out.bl HA1.out).mono ?_; rintro e w4 ⟨rfl, hi, hb, hk⟩; have HE4 := Aside0.mk (HE.out.call hi hb hk); have hca4 := HE4.out.ca; clear hi hb hk)
            | (go_at_call 67; refine (path_list_inner.calls k g _ _ c2 c3 _ [] true l2 l3 l4 w0 w _ HE4.out HA2.out).mono ?_; rintro e w5 ⟨rfl, v5, h5⟩; have HE5 := Aside0.mk h5; have hca5 := HE5.out.ca; clear h5)
            | (go_at_call 56; refine (path_reader_take.calls g l2 l3 58 false u2 u3 w0 _ HE5.out.st HE5.out.bl HA3.out).mono ?_; rintro e w6 ⟨rfl, hi, hb, hk⟩; have HE6 := Aside0.mk (HE5.out.call hi hb hk); have hca6 := HE6.out.ca; clear hi hb hk; have hkf0 := blk_frozen HE6.out.hc 0; have hkf1 := blk_frozen HE6.out.hc 1; have hkf2 := blk_frozen HE6.out.hc 2; have hkf3 := blk_frozen HE6.out.hc 3; have hkf4 := blk_frozen HE6.out.hc 4; have hkc0 : w6.cell? ⟨w.heap.size + 1, 0, none⟩ = some (Value.bool false) := (blk_cell HE6.out.hc 0).trans rfl; have hkc1 : w6.cell? ⟨w.heap.size + 1, 1, none⟩ = some (Value.slice none 0 0) := (blk_cell HE6.out.hc 1).trans rfl; have hkc2 : w6.cell? ⟨w.heap.size + 1, 2, none⟩ = some (Value.string ⟨#[]⟩) := (blk_cell HE6.out.hc 2).trans rfl; have hkc3 : w6.cell? ⟨w.heap.size + 1, 3, none⟩ = some (Value.string ⟨#[]⟩) := (blk_cell HE6.out.hc 3).trans rfl; have hkc4 : w6.cell? ⟨w.heap.size + 1, 4, none⟩ = some (Value.bool false) := (blk_cell HE6.out.hc 4).trans rfl))
          have H9 := store5 (W := w6) (.bool false) (.slice none 0 0) (.string ⟨#[]⟩) (.string ⟨#[]⟩) (.bool false) HE6.out.st HE6.out.bl HE6.out.kp HE6.out.sz (Nat.le_succ _) HE6.out.hc rfl
          refine bodyPost_ret (results_ct rfl _ _ (w.heap.size + 1) 32 #[.bool false, .slice none 0 0, .string ⟨#[]⟩, .string ⟨#[]⟩, .bool false] (0, 0) _ rfl H9.1 Tryz.underlying32 rfl (by kernel_rfl)) rfl ?_
          exact ⟨_, rfl, Kd.R_nil _ _ _ _ _, H9.2.1, H9.2.2.1, H9.2.2.2.1⟩
        | true =>
          rw [if_pos rfl] at h
          unfold path_inner.f3 at h
          obtain ⟨⟨m1, m2, m3, m4, m5, m6⟩, Ab, h⟩ := Option.bind_eq_some_iff.mp h
          dsimp only at Ab h
          simp only [Option.some.injEq, Prod.mk.injEq] at h
          obtain ⟨rfl, rfl, rfl, rfl, rfl, rfl, rfl, rfl⟩ := h
          have HAb := Aside0.mk Ab
          clear Ab
          go_wp2_with (first
            | (go_at_call 115; refine (path_reader_peek.calls g s p c1 c2 c3 w0 _ HE.out.st HE.out.bl HA1.out).mono ?_; rintro e w4 ⟨rfl, hi, hb, hk⟩; have HE4 := Aside0.mk (HE.out.call hi hb hk); have hca4 := HE4.out.ca; clear hi hb hk)
            | (go_at_call 67; refine (path_list_inner.calls k g _ _ c2 c3 _ [] true l2 l3 l4 w0 w _ HE4.out HA2.out).mono ?_; rintro e w5 ⟨rfl, v5, h5⟩; have HE5 := Aside0.mk h5; have hca5 := HE5.out.ca; clear h5)
            | (go_at_call 56; refine (path_reader_take.calls g l2 l3 58 true u2 u3 w0 _ HE5.out.st HE5.out.bl HA3.out).mono ?_; rintro e w6 ⟨rfl, hi, hb, hk⟩; have HE6 := Aside0.mk (HE5.out.call hi hb hk); have hca6 := HE6.out.ca; clear hi hb hk)
            | (go_at_call 71; refine (path_reader_box.calls k g u2 u3 m1 m2 m3 m4 m5 m6 w0 _ HE6.out.st HE6.out.bl HG.out HAb.out).mono ?_; rintro e w9 ⟨rfl, hi, hb, hk⟩; have HE9 := Aside0.mk (HE6.out.call hi hb hk); obtain ⟨A9, c9, e9⟩ := Kd.R_slice HE9.out.hr; subst e9; have hbf0 := HE9.out.fb 0; have hbf1 := HE9.out.fb 1; have hbf2 := HE9.out.fb 2; have hbf3 := HE9.out.fb 3; have hbf4 := HE9.out.fb 4; have hbc0 : w9.cell? ⟨w3.heap.size, 0, none⟩ = some (Value.bool false) := (blk_cell HE9.out.hb 0).trans rfl; have hbc1 : w9.cell? ⟨w3.heap.size, 1, none⟩ = some (Value.slice A9 l4.length c9) := (blk_cell HE9.out.hb 1).trans rfl; have hbc2 : w9.cell? ⟨w3.heap.size, 2, none⟩ = some (Value.string ⟨#[]⟩) := (blk_cell HE9.out.hb 2).trans rfl; have hbc3 : w9.cell? ⟨w3.heap.size, 3, none⟩ = some (Value.string ⟨#[]⟩) := (blk_cell HE9.out.hb 3).trans rfl; have hbc4 : w9.cell? ⟨w3.heap.size, 4, none⟩ = some (Value.bool false) := (blk_cell HE9.out.hb 4).trans rfl; have hkf0 := blk_frozen HE9.out.hc 0; have hkf1 := blk_frozen HE9.out.hc 1; have hkf2 := blk_frozen HE9.out.hc 2; have hkf3 := blk_frozen HE9.out.hc 3; have hkf4 := blk_frozen HE9.out.hc 4; have hkc0 : w9.cell? ⟨w.heap.size + 1, 0, none⟩ = some (Value.bool false) := (blk_cell HE9.out.hc 0).trans rfl; have hkc1 : w9.cell? ⟨w.heap.size + 1, 1, none⟩ = some (Value.slice none 0 0) := (blk_cell HE9.out.hc 1).trans rfl; have hkc2 : w9.cell? ⟨w.heap.size + 1, 2, none⟩ = some (Value.string ⟨#[]⟩) := (blk_cell HE9.out.hc 2).trans rfl; have hkc3 : w9.cell? ⟨w.heap.size + 1, 3, none⟩ = some (Value.string ⟨#[]⟩) := (blk_cell HE9.out.hc 3).trans rfl; have hkc4 : w9.cell? ⟨w.heap.size + 1, 4, none⟩ = some (Value.bool false) := (blk_cell HE9.out.hc 4).trans rfl; have hnb : w.heap.size + 1 ≠ w3.heap.size := Nat.ne_of_lt HE9.out.gb; have hnb2 : w3.heap.size ≠ w.heap.size + 1 := (Nat.ne_of_lt HE9.out.gb).symm; clear hi hb hk))
          have H8 := HE9.out.box (.string m1) (.string m2) (.bool m3) rfl
          have H9 := store5 (.bool false) (.slice A9 l4.length c9) (.string m1) (.string m2) (.bool m3) H8.2.1 H8.2.2.1 H8.2.2.2.1 HE9.out.sz (Nat.le_succ _) H8.2.2.2.2.2 rfl
          refine bodyPost_ret (results_ct rfl _ _ (w.heap.size + 1) 32 #[.bool false, .slice A9 l4.length c9, .string m1, .string m2, .bool m3] (0, 0) _ rfl H9.1 Tryz.underlying32 rfl (by kernel_rfl)) rfl ?_
          exact ⟨_, rfl, H9.2.2.2.2 _ _ H8.2.2.2.2.1, H9.2.1, H9.2.2.1, H9.2.2.2.1⟩
  case pos =>
    have hd : decide (10 < (s.size : Int) - p) = true := decide_eq_true (by omega)
    have e1 : (0 ≤ p) = True := eq_true hp0
    have e2 : (p ≤ p + 10) = True := eq_true (by omega)
    have e3 : (p + 10 ≤ (s.size : Int)) = True := eq_true (by omega)
    have e4 : (0 ≤ p + 10) = True := eq_true (by omega)
    have e5 : (p + 10 < (s.size : Int)) = True := eq_true hr
    have hx := bt_at s (p + 10)
    obtain ⟨X, hX⟩ : ∃ X, path_small.g (s.extract p.toNat (p + 10).toNat) = X := ⟨_, rfl⟩
    have HX := Aside0.mk hX
    have HC := Aside0.mk (fun W => path_small.calls (s.extract p.toNat (p + 10).toNat) X W (by unfold path_small.f; rw [if_pos, hX]; simp; omega))
    clear hX
    cases hq : (X.toList == ([112, 111, 115, 116, 109, 97, 115, 116, 101, 114] : List UInt8)) with
    | false =>
      have HA := Aside0.mk (show isAlone s p = false by unfold isAlone; rw [HX.out, hq]; simp)
      refine start_ (n := 45) (S := fun w' => w'.cell? ⟨w.heap.size, 0, none⟩ = some (.pointer (some ⟨g, 0, none⟩)) ∧ w'.cell? ⟨g, 0, none⟩ = some (.string s) ∧ w'.cell? ⟨g, 1, none⟩ = some (.int .i64 p) ∧ Aside0 (Front w0 w w' g s p)) (ds := []) #[false, false, false, false, false, false, false, false, false, false, false, false, false, false, false, false, false, false, false, false, false, false, false, false, false, false, false, false, false, false, false, false, false, false, false, false, false, false, false, false, false, false, false, false, false] (by kernel_rfl) (by rfl) (by rfl) ⟨hca, hc0, hc1, (Aside0.mk (HF.out.below (below_drew1 (Below.refl _ _))))⟩ (fun hHeld => ?_)
      refine pure_ (i := 10) (N := some 18) (v := ?_) (a' := ?_) #[false, false, false, false, false, false, false, false, false, false, true, false, false, false, false, false, false, false, false, false, false, false, false, false, false, false, false, false, false, false, false, false, false, false, false, false, false, false, false, false, false, false, false, false, false] rfl rfl (by kernel_rfl) (fun _ _ _ h => h) (Or.inl ⟨by rfl, ?_⟩) ?_ ?_
      rotate_left
      · intro w'
        go_simp
        with_reducible rfl
      rotate_left
      · simp only [Act.put, List.setIfInBounds_toArray, List.set_cons_zero, List.set_cons_succ, i64_w, i32_w]
        rfl
      refine take_ (i := 0) (N := some 8) (v := ?_) (a' := ?_) #[true, false, false, false, false, false, false, false, false, false, true, false, false, false, false, false, false, false, false, false, false, false, false, false, false, false, false, false, false, false, false, false, false, false, false, false, false, false, false, false, false, false, false, false, false] rfl rfl (by kernel_rfl) (fun _ _ _ h => h) (Or.inl ⟨by rfl, ?_⟩) hHeld ?_ ?_
      rotate_left
      · rintro w' ⟨s0, s1, s2, s3⟩
        go_simp
        with_reducible rfl
      rotate_left
      · simp only [Act.put, List.setIfInBounds_toArray, List.set_cons_zero, List.set_cons_succ, i64_w, i32_w]
        rfl
      refine pure_ (i := 1) (N := some 9) (v := ?_) (a' := ?_) #[true, true, false, false, false, false, false, false, false, false, true, false, false, false, false, false, false, false, false, false, false, false, false, false, false, false, false, false, false, false, false, false, false, false, false, false, false, false, false, false, false, false, false, false, false] rfl rfl (by kernel_rfl) (fun _ _ _ h => h) (Or.inl ⟨by rfl, ?_⟩) ?_ ?_
      rotate_left
      · intro w'
        go_simp
        with_reducible rfl
      rotate_left
      · simp only [Act.put, List.setIfInBounds_toArray, List.set_cons_zero, List.set_cons_succ, i64_w, i32_w]
        rfl
      refine pure_ (i := 2) (N := some 10) (v := ?_) (a' := ?_) #[true, true, true, false, false, false, false, false, false, false, true, false, false, false, false, false, false, false, false, false, false, false, false, false, false, false, false, false, false, false, false, false, false, false, false, false, false, false, false, false, false, false, false, false, false] rfl rfl (by kernel_rfl) (fun _ _ _ h => h) (Or.inl ⟨by rfl, ?_⟩) ?_ ?_
      rotate_left
      · intro w'
        go_simp
        with_reducible rfl
      rotate_left
      · simp only [Act.put, List.setIfInBounds_toArray, List.set_cons_zero, List.set_cons_succ, i64_w, i32_w]
        rfl
      refine take_ (i := 3) (N := some 11) (v := ?_) (a' := ?_) #[true, true, true, true, false, false, false, false, false, false, true, false, false, false, false, false, false, false, false, false, false, false, false, false, false, false, false, false, false, false, false, false, false, false, false, false, false, false, false, false, false, false, false, false, false] rfl rfl (by kernel_rfl) (fun _ _ _ h => h) (Or.inl ⟨by rfl, ?_⟩) hHeld ?_ ?_
      rotate_left
      · rintro w' ⟨s0, s1, s2, s3⟩
        go_simp
        with_reducible rfl
      rotate_left
      · simp only [Act.put, List.setIfInBounds_toArray, List.set_cons_zero, List.set_cons_succ, i64_w, i32_w]
        rfl
      refine pure_ (i := 4) (N := some 12) (v := ?_) (a' := ?_) #[true, true, true, true, true, false, false, false, false, false, true, false, false, false, false, false, false, false, false, false, false, false, false, false, false, false, false, false, false, false, false, false, false, false, false, false, false, false, false, false, false, false, false, false, false] rfl rfl (by kernel_rfl) (fun _ _ _ h => h) (Or.inl ⟨by rfl, ?_⟩) ?_ ?_
      rotate_left
      · intro w'
        go_simp
        with_reducible rfl
      rotate_left
      · simp only [Act.put, List.setIfInBounds_toArray, List.set_cons_zero, List.set_cons_succ, i64_w, i32_w]
        rfl
      refine take_ (i := 5) (N := some 13) (v := ?_) (a' := ?_) #[true, true, true, true, true, true, false, false, false, false, true, false, false, false, false, false, false, false, false, false, false, false, false, false, false, false, false, false, false, false, false, false, false, false, false, false, false, false, false, false, false, false, false, false, false] rfl rfl (by kernel_rfl) (fun _ _ _ h => h) (Or.inl ⟨by rfl, ?_⟩) hHeld ?_ ?_
      rotate_left
      · rintro w' ⟨s0, s1, s2, s3⟩
        go_simp
        with_reducible rfl
      rotate_left
      · simp only [Act.put, List.setIfInBounds_toArray, List.set_cons_zero, List.set_cons_succ, i64_w, i32_w]
        rfl
      refine pure_ (i := 6) (N := some 14) (v := ?_) (a' := ?_) #[true, true, true, true, true, true, true, false, false, false, true, false, false, false, false, false, false, false, false, false, false, false, false, false, false, false, false, false, false, false, false, false, false, false, false, false, false, false, false, false, false, false, false, false, false] rfl rfl (by kernel_rfl) (fun _ _ _ h => h) (Or.inl ⟨by rfl, ?_⟩) ?_ ?_
      rotate_left
      · intro w'
        go_simp
        with_reducible rfl
      rotate_left
      · simp only [Act.put, List.setIfInBounds_toArray, List.set_cons_zero, List.set_cons_succ, i64_w, i32_w]
        rfl
      refine pure_ (i := 7) (N := some 15) (v := ?_) (a' := ?_) #[true, true, true, true, true, true, true, true, false, false, true, false, false, false, false, false, false, false, false, false, false, false, false, false, false, false, false, false, false, false, false, false, false, false, false, false, false, false, false, false, false, false, false, false, false] rfl rfl (by kernel_rfl) (fun _ _ _ h => h) (Or.inl ⟨by rfl, ?_⟩) ?_ ?_
      rotate_left
      · intro w'
        go_simp
        with_reducible rfl
      rotate_left
      · simp only [Act.put, List.setIfInBounds_toArray, List.set_cons_zero, List.set_cons_succ, i64_w, i32_w]
        rfl
      refine take_ (i := 8) (N := some 16) (v := ?_) (a' := ?_) #[true, true, true, true, true, true, true, true, true, false, true, false, false, false, false, false, false, false, false, false, false, false, false, false, false, false, false, false, false, false, false, false, false, false, false, false, false, false, false, false, false, false, false, false, false] rfl rfl (by kernel_rfl) (fun _ _ _ h => h) (Or.inl ⟨by rfl, ?_⟩) hHeld ?_ ?_
      rotate_left
      · rintro w' ⟨s0, s1, s2, s3⟩
        go_simp
        with_reducible rfl
      rotate_left
      · simp only [Act.put, List.setIfInBounds_toArray, List.set_cons_zero, List.set_cons_succ, i64_w, i32_w]
        rfl
      refine pure_ (i := 9) (N := some 17) (v := ?_) (a' := ?_) #[true, true, true, true, true, true, true, true, true, true, true, false, false, false, false, false, false, false, false, false, false, false, false, false, false, false, false, false, false, false, false, false, false, false, false, false, false, false, false, false, false, false, false, false, false] rfl rfl (by kernel_rfl) (fun _ _ _ h => h) (Or.inl ⟨by rfl, ?_⟩) ?_ ?_
      rotate_left
      · intro w'
        go_simp
        with_reducible rfl
      rotate_left
      · simp only [Act.put, List.setIfInBounds_toArray, List.set_cons_zero, List.set_cons_succ, i64_w, i32_w]
        rfl
      refine pure_ (i := 11) (N := some 19) (v := ?_) (a' := ?_) #[true, true, true, true, true, true, true, true, true, true, true, true, false, false, false, false, false, false, false, false, false, false, false, false, false, false, false, false, false, false, false, false, false, false, false, false, false, false, false, false, false, false, false, false, false] rfl rfl (by kernel_rfl) (fun _ _ _ h => h) (Or.inl ⟨by rfl, ?_⟩) ?_ ?_
      rotate_left
      · intro w'
        go_simp
        with_reducible rfl
      rotate_left
      · simp only [Act.put, List.setIfInBounds_toArray, List.set_cons_zero, List.set_cons_succ, i64_w, i32_w]
        rfl
      refine pure_ (i := 12) (N := some 20) (v := ?_) (a' := ?_) #[true, true, true, true, true, true, true, true, true, true, true, true, true, false, false, false, false, false, false, false, false, false, false, false, false, false, false, false, false, false, false, false, false, false, false, false, false, false, false, false, false, false, false, false, false] rfl rfl (by kernel_rfl) (fun _ _ _ h => h) (Or.inl ⟨by rfl, ?_⟩) ?_ ?_
      rotate_left
      · intro w'
        go_simp
        with_reducible rfl
      rotate_left
      · simp only [Act.put, List.setIfInBounds_toArray, List.set_cons_zero, List.set_cons_succ, i64_w, i32_w]
        rfl
      refine pure_ (i := 25) (N := some 33) (v := ?_) (a' := ?_) #[true, true, true, true, true, true, true, true, true, true, true, true, true, false, false, false, false, false, false, false, false, false, false, false, false, true, false, false, false, false, false, false, false, false, false, false, false, false, false, false, false, false, false, false, false] rfl rfl (by kernel_rfl) (fun _ _ _ h => h) (Or.inl ⟨by rfl, ?_⟩) ?_ ?_
      rotate_left
      · intro w'
        go_simp
        with_reducible rfl
      rotate_left
      · simp only [Act.put, List.setIfInBounds_toArray, List.set_cons_zero, List.set_cons_succ, i64_w, i32_w]
        rfl
      refine take_ (i := 13) (N := some 21) (v := ?_) (a' := ?_) #[true, true, true, true, true, true, true, true, true, true, true, true, true, true, false, false, false, false, false, false, false, false, false, false, false, true, false, false, false, false, false, false, false, false, false, false, false, false, false, false, false, false, false, false, false] rfl rfl (by kernel_rfl) (fun _ _ _ h => h) (Or.inl ⟨by rfl, ?_⟩) hHeld ?_ ?_
      rotate_left
      · rintro w' ⟨s0, s1, s2, s3⟩
        go_simp
        with_reducible rfl
      rotate_left
      · simp only [Act.put, List.setIfInBounds_toArray, List.set_cons_zero, List.set_cons_succ, i64_w, i32_w]
        rfl
      refine pure_ (i := 14) (N := some 22) (v := ?_) (a' := ?_) #[true, true, true, true, true, true, true, true, true, true, true, true, true, true, true, false, false, false, false, false, false, false, false, false, false, true, false, false, false, false, false, false, false, false, false, false, false, false, false, false, false, false, false, false, false] rfl rfl (by kernel_rfl) (fun _ _ _ h => h) (Or.inl ⟨by rfl, ?_⟩) ?_ ?_
      rotate_left
      · intro w'
        go_simp
        with_reducible rfl
      rotate_left
      · simp only [Act.put, List.setIfInBounds_toArray, List.set_cons_zero, List.set_cons_succ, i64_w, i32_w]
        rfl
      refine pure_ (i := 15) (N := some 23) (v := ?_) (a' := ?_) #[true, true, true, true, true, true, true, true, true, true, true, true, true, true, true, true, false, false, false, false, false, false, false, false, false, true, false, false, false, false, false, false, false, false, false, false, false, false, false, false, false, false, false, false, false] rfl rfl (by kernel_rfl) (fun _ _ _ h => h) (Or.inl ⟨by rfl, ?_⟩) ?_ ?_
      rotate_left
      · intro w'
        go_simp
        with_reducible rfl
      rotate_left
      · simp only [Act.put, List.setIfInBounds_toArray, List.set_cons_zero, List.set_cons_succ, i64_w, i32_w]
        rfl
      refine take_ (i := 16) (N := some 24) (v := ?_) (a' := ?_) #[true, true, true, true, true, true, true, true, true, true, true, true, true, true, true, true, true, false, false, false, false, false, false, false, false, true, false, false, false, false, false, false, false, false, false, false, false, false, false, false, false, false, false, false, false] rfl rfl (by kernel_rfl) (fun _ _ _ h => h) (Or.inl ⟨by rfl, ?_⟩) hHeld ?_ ?_
      rotate_left
      · rintro w' ⟨s0, s1, s2, s3⟩
        go_simp
        with_reducible rfl
      rotate_left
      · simp only [Act.put, List.setIfInBounds_toArray, List.set_cons_zero, List.set_cons_succ, i64_w, i32_w]
        rfl
      refine take_ (i := 17) (N := some 25) (v := ?_) (a' := ?_) #[true, true, true, true, true, true, true, true, true, true, true, true, true, true, true, true, true, true, false, false, false, false, false, false, false, true, false, false, false, false, false, false, false, false, false, false, false, false, false, false, false, false, false, false, false] rfl rfl (by kernel_rfl) (fun _ _ _ h => h) (Or.inl ⟨by rfl, ?_⟩) hHeld ?_ ?_
      rotate_left
      · rintro w' ⟨s0, s1, s2, s3⟩
        go_simp
        with_reducible rfl
      rotate_left
      · simp only [Act.put, List.setIfInBounds_toArray, List.set_cons_zero, List.set_cons_succ, i64_w, i32_w]
        rfl
      refine pure_ (i := 18) (N := some 26) (v := ?_) (a' := ?_) #[true, true, true, true, true, true, true, true, true, true, true, true, true, true, true, true, true, true, true, false, false, false, false, false, false, true, false, false, false, false, false, false, false, false, false, false, false, false, false, false, false, false, false, false, false] rfl rfl (by kernel_rfl) (fun _ _ _ h => h) (Or.inl ⟨by rfl, ?_⟩) ?_ ?_
      rotate_left
      · intro w'
        go_simp
        with_reducible rfl
      rotate_left
      · simp only [Act.put, List.setIfInBounds_toArray, List.set_cons_zero, List.set_cons_succ, i64_w, i32_w]
        rfl
      refine pure_ (i := 19) (N := some 27) (v := ?_) (a' := ?_) #[true, true, true, true, true, true, true, true, true, true, true, true, true, true, true, true, true, true, true, true, false, false, false, false, false, true, false, false, false, false, false, false, false, false, false, false, false, false, false, false, false, false, false, false, false] rfl rfl (by kernel_rfl) (fun _ _ _ h => h) (Or.inl ⟨by rfl, ?_⟩) ?_ ?_
      rotate_left
      · intro w'
        go_simp
        with_reducible rfl
      rotate_left
      · simp only [Act.put, List.setIfInBounds_toArray, List.set_cons_zero, List.set_cons_succ, i64_w, i32_w]
        rfl
      refine take_ (i := 20) (N := some 28) (v := ?_) (a' := ?_) #[true, true, true, true, true, true, true, true, true, true, true, true, true, true, true, true, true, true, true, true, true, false, false, false, false, true, false, false, false, false, false, false, false, false, false, false, false, false, false, false, false, false, false, false, false] rfl rfl (by kernel_rfl) (fun _ _ _ h => h) (Or.inl ⟨by rfl, ?_⟩) hHeld ?_ ?_
      rotate_left
      · rintro w' ⟨s0, s1, s2, s3⟩
        go_simp
        with_reducible rfl
      rotate_left
      · simp only [Act.put, List.setIfInBounds_toArray, List.set_cons_zero, List.set_cons_succ, i64_w, i32_w]
        rfl
      refine take_ (i := 21) (N := some 29) (v := ?_) (a' := ?_) #[true, true, true, true, true, true, true, true, true, true, true, true, true, true, true, true, true, true, true, true, true, true, false, false, false, true, false, false, false, false, false, false, false, false, false, false, false, false, false, false, false, false, false, false, false] rfl rfl (by kernel_rfl) (fun _ _ _ h => h) (Or.inl ⟨by rfl, ?_⟩) hHeld ?_ ?_
      rotate_left
      · rintro w' ⟨s0, s1, s2, s3⟩
        go_simp
        with_reducible rfl
      rotate_left
      · simp only [Act.put, List.setIfInBounds_toArray, List.set_cons_zero, List.set_cons_succ, i64_w, i32_w]
        rfl
      refine pure_ (i := 22) (N := some 30) (v := ?_) (a' := ?_) #[true, true, true, true, true, true, true, true, true, true, true, true, true, true, true, true, true, true, true, true, true, true, true, false, false, true, false, false, false, false, false, false, false, false, false, false, false, false, false, false, false, false, false, false, false] rfl rfl (by kernel_rfl) (fun _ _ _ h => h) (Or.inl ⟨by rfl, ?_⟩) ?_ ?_
      rotate_left
      · intro w'
        go_simp
        with_reducible rfl
      rotate_left
      · simp only [Act.put, List.setIfInBounds_toArray, List.set_cons_zero, List.set_cons_succ, i64_w, i32_w]
        rfl
      refine pure_ (i := 23) (N := some 31) (v := ?_) (a' := ?_) #[true, true, true, true, true, true, true, true, true, true, true, true, true, true, true, true, true, true, true, true, true, true, true, true, false, true, false, false, false, false, false, false, false, false, false, false, false, false, false, false, false, false, false, false, false] rfl rfl (by kernel_rfl) (fun _ _ _ h => h) (Or.inl ⟨by rfl, ?_⟩) ?_ ?_
      rotate_left
      · intro w'
        go_simp
        with_reducible rfl
      rotate_left
      · simp only [Act.put, List.setIfInBounds_toArray, List.set_cons_zero, List.set_cons_succ, i64_w, i32_w]
        rfl
      refine take_ (i := 24) (N := some 32) (v := ?_) (a' := ?_) #[true, true, true, true, true, true, true, true, true, true, true, true, true, true, true, true, true, true, true, true, true, true, true, true, true, true, false, false, false, false, false, false, false, false, false, false, false, false, false, false, false, false, false, false, false] rfl rfl (by kernel_rfl) (fun _ _ _ h => h) (Or.inl ⟨by rfl, ?_⟩) hHeld ?_ ?_
      rotate_left
      · rintro w' ⟨s0, s1, s2, s3⟩
        go_simp
        with_reducible rfl
      rotate_left
      · simp only [Act.put, List.setIfInBounds_toArray, List.set_cons_zero, List.set_cons_succ, i64_w, i32_w]
        rfl
      refine pure_ (i := 26) (N := some 34) (v := ?_) (a' := ?_) #[true, true, true, true, true, true, true, true, true, true, true, true, true, true, true, true, true, true, true, true, true, true, true, true, true, true, true, false, false, false, false, false, false, false, false, false, false, false, false, false, false, false, false, false, false] rfl rfl (by kernel_rfl) (fun _ _ _ h => h) (Or.inl ⟨by rfl, ?_⟩) ?_ ?_
      rotate_left
      · intro w'
        go_simp
        with_reducible rfl
      rotate_left
      · simp only [Act.put, List.setIfInBounds_toArray, List.set_cons_zero, List.set_cons_succ, i64_w, i32_w]
        rfl
      refine pure_ (i := 27) (N := some 35) (v := ?_) (a' := ?_) #[true, true, true, true, true, true, true, true, true, true, true, true, true, true, true, true, true, true, true, true, true, true, true, true, true, true, true, true, false, false, false, false, false, false, false, false, false, false, false, false, false, false, false, false, false] rfl rfl (by kernel_rfl) (fun _ _ _ h => h) (Or.inl ⟨by rfl, ?_⟩) ?_ ?_
      rotate_left
      · intro w'
        go_simp
        with_reducible rfl
      rotate_left
      · simp only [Act.put, List.setIfInBounds_toArray, List.set_cons_zero, List.set_cons_succ, i64_w, i32_w]
        rfl
      refine one_ (i := 28) (N := some 36) #[true, true, true, true, true, true, true, true, true, true, true, true, true, true, true, true, true, true, true, true, true, true, true, true, true, true, true, true, true, false, false, false, false, false, false, false, false, false, false, false, false, false, false, false, false] rfl rfl (by kernel_rfl) (by decide) (fun K hK => ?_)
      refine goes_ Tryz.func81 (by kernel_rfl) rfl #[.string (s.extract p.toNat (p + 10).toNat)] (by rfl) rfl rfl (by simp only [List.map_toArray, List.map_cons, List.map_nil]; rfl) ?_
      with_reducible refine (HC.out _).mono ?_
      rintro e w3 ⟨rfl, hb⟩
      refine ⟨_, rfl, ?_⟩
      have HF3 := Aside0.mk (Front.below hHeld.2.2.2.out hb)
      clear hb
      refine hK.out _ _ ⟨(blk_cell HF3.out.ha 0).trans rfl, (blk_cell HF3.out.st.1 0).trans rfl, (blk_cell HF3.out.st.1 1).trans rfl, HF3⟩ (fun hHeld => ?_)
      clear hK K
      refine norm_ (a' := ?_) ?_ ?_
      rotate_left
      · show Act.put _ (some 36) _ = _
        simp only [Act.put, List.setIfInBounds_toArray, List.set_cons_zero, List.set_cons_succ, i64_w, i32_w]
        rfl
      refine pure_ (i := 29) (N := some 37) (v := ?_) (a' := ?_) #[true, true, true, true, true, true, true, true, true, true, true, true, true, true, true, true, true, true, true, true, true, true, true, true, true, true, true, true, true, true, false, false, false, false, false, false, false, false, false, false, false, false, false, false, false] rfl rfl (by kernel_rfl) (fun _ _ _ h => h) (Or.inl ⟨by rfl, ?_⟩) ?_ ?_
      rotate_left
      · intro w'
        go_simp
        with_reducible rfl
      rotate_left
      · simp only [Act.put, List.setIfInBounds_toArray, List.set_cons_zero, List.set_cons_succ, i64_w, i32_w]
        rfl
      refine pure_ (i := 30) (N := some 38) (v := ?_) (a' := ?_) #[true, true, true, true, true, true, true, true, true, true, true, true, true, true, true, true, true, true, true, true, true, true, true, true, true, true, true, true, true, true, true, false, false, false, false, false, false, false, false, false, false, false, false, false, false] rfl rfl (by kernel_rfl) (fun _ _ _ h => h) (Or.inl ⟨by rfl, ?_⟩) ?_ ?_
      rotate_left
      · intro w'
        go_simp
        with_reducible rfl
      rotate_left
      · simp only [Act.put, List.setIfInBounds_toArray, List.set_cons_zero, List.set_cons_succ, i64_w, i32_w]
        rfl
      refine pure_ (i := 31) (N := some 39) (v := ?_) (a' := ?_) #[true, true, true, true, true, true, true, true, true, true, true, true, true, true, true, true, true, true, true, true, true, true, true, true, true, true, true, true, true, true, true, true, false, false, false, false, false, false, false, false, false, false, false, false, false] rfl rfl (by kernel_rfl) (fun _ _ _ h => h) (Or.inl ⟨by rfl, ?_⟩) ?_ ?_
      rotate_left
      · intro w'
        go_simp
        with_reducible rfl
      rotate_left
      · simp only [Act.put, List.setIfInBounds_toArray, List.set_cons_zero, List.set_cons_succ, i64_w, i32_w]
        rfl
      refine pure_ (i := 32) (N := some 40) (v := undef) (a' := ?_) #[true, true, true, true, true, true, true, true, true, true, true, true, true, true, true, true, true, true, true, true, true, true, true, true, true, true, true, true, true, true, true, true, true, false, false, false, false, false, false, false, false, false, false, false, false] rfl rfl (by kernel_rfl) (fun _ _ _ h => h) (Or.inr ⟨by rfl, rfl⟩) ?_ ?_
      rotate_left
      · simp only [Act.put, List.setIfInBounds_toArray, List.set_cons_zero, List.set_cons_succ, i64_w, i32_w]
        rfl
      refine pure_ (i := 33) (N := some 41) (v := undef) (a' := ?_) #[true, true, true, true, true, true, true, true, true, true, true, true, true, true, true, true, true, true, true, true, true, true, true, true, true, true, true, true, true, true, true, true, true, true, false, false, false, false, false, false, false, false, false, false, false] rfl rfl (by kernel_rfl) (fun _ _ _ h => h) (Or.inr ⟨by rfl, rfl⟩) ?_ ?_
      rotate_left
      · simp only [Act.put, List.setIfInBounds_toArray, List.set_cons_zero, List.set_cons_succ, i64_w, i32_w]
        rfl
      refine pure_ (i := 34) (N := some 42) (v := undef) (a' := ?_) #[true, true, true, true, true, true, true, true, true, true, true, true, true, true, true, true, true, true, true, true, true, true, true, true, true, true, true, true, true, true, true, true, true, true, true, false, false, false, false, false, false, false, false, false, false] rfl rfl (by kernel_rfl) (fun _ _ _ h => h) (Or.inr ⟨by rfl, rfl⟩) ?_ ?_
      rotate_left
      · simp only [Act.put, List.setIfInBounds_toArray, List.set_cons_zero, List.set_cons_succ, i64_w, i32_w]
        rfl
      refine pure_ (i := 35) (N := some 43) (v := undef) (a' := ?_) #[true, true, true, true, true, true, true, true, true, true, true, true, true, true, true, true, true, true, true, true, true, true, true, true, true, true, true, true, true, true, true, true, true, true, true, true, false, false, false, false, false, false, false, false, false] rfl rfl (by kernel_rfl) (fun _ _ _ h => h) (Or.inr ⟨by rfl, rfl⟩) ?_ ?_
      rotate_left
      · simp only [Act.put, List.setIfInBounds_toArray, List.set_cons_zero, List.set_cons_succ, i64_w, i32_w]
        rfl
      refine pure_ (i := 36) (N := some 44) (v := undef) (a' := ?_) #[true, true, true, true, true, true, true, true, true, true, true, true, true, true, true, true, true, true, true, true, true, true, true, true, true, true, true, true, true, true, true, true, true, true, true, true, true, false, false, false, false, false, false, false, false] rfl rfl (by kernel_rfl) (fun _ _ _ h => h) (Or.inr ⟨by rfl, rfl⟩) ?_ ?_
      rotate_left
      · simp only [Act.put, List.setIfInBounds_toArray, List.set_cons_zero, List.set_cons_succ, i64_w, i32_w]
        rfl
      refine pure_ (i := 37) (N := some 45) (v := undef) (a' := ?_) #[true, true, true, true, true, true, true, true, true, true, true, true, true, true, true, true, true, true, true, true, true, true, true, true, true, true, true, true, true, true, true, true, true, true, true, true, true, true, false, false, false, false, false, false, false] rfl rfl (by kernel_rfl) (fun _ _ _ h => h) (Or.inr ⟨by rfl, rfl⟩) ?_ ?_
      rotate_left
      · simp only [Act.put, List.setIfInBounds_toArray, List.set_cons_zero, List.set_cons_succ, i64_w, i32_w]
        rfl
      refine pure_ (i := 38) (N := some 46) (v := undef) (a' := ?_) #[true, true, true, true, true, true, true, true, true, true, true, true, true, true, true, true, true, true, true, true, true, true, true, true, true, true, true, true, true, true, true, true, true, true, true, true, true, true, true, false, false, false, false, false, false] rfl rfl (by kernel_rfl) (fun _ _ _ h => h) (Or.inr ⟨by rfl, rfl⟩) ?_ ?_
      rotate_left
      · simp only [Act.put, List.setIfInBounds_toArray, List.set_cons_zero, List.set_cons_succ, i64_w, i32_w]
        rfl
      refine pure_ (i := 39) (N := some 47) (v := undef) (a' := ?_) #[true, true, true, true, true, true, true, true, true, true, true, true, true, true, true, true, true, true, true, true, true, true, true, true, true, true, true, true, true, true, true, true, true, true, true, true, true, true, true, true, false, false, false, false, false] rfl rfl (by kernel_rfl) (fun _ _ _ h => h) (Or.inr ⟨by rfl, rfl⟩) ?_ ?_
      rotate_left
      · simp only [Act.put, List.setIfInBounds_toArray, List.set_cons_zero, List.set_cons_succ, i64_w, i32_w]
        rfl
      refine pure_ (i := 40) (N := some 48) (v := undef) (a' := ?_) #[true, true, true, true, true, true, true, true, true, true, true, true, true, true, true, true, true, true, true, true, true, true, true, true, true, true, true, true, true, true, true, true, true, true, true, true, true, true, true, true, true, false, false, false, false] rfl rfl (by kernel_rfl) (fun _ _ _ h => h) (Or.inr ⟨by rfl, rfl⟩) ?_ ?_
      rotate_left
      · simp only [Act.put, List.setIfInBounds_toArray, List.set_cons_zero, List.set_cons_succ, i64_w, i32_w]
        rfl
      refine pure_ (i := 41) (N := some 49) (v := undef) (a' := ?_) #[true, true, true, true, true, true, true, true, true, true, true, true, true, true, true, true, true, true, true, true, true, true, true, true, true, true, true, true, true, true, true, true, true, true, true, true, true, true, true, true, true, true, false, false, false] rfl rfl (by kernel_rfl) (fun _ _ _ h => h) (Or.inr ⟨by rfl, rfl⟩) ?_ ?_
      rotate_left
      · simp only [Act.put, List.setIfInBounds_toArray, List.set_cons_zero, List.set_cons_succ, i64_w, i32_w]
        rfl
      refine pure_ (i := 42) (N := some 50) (v := undef) (a' := ?_) #[true, true, true, true, true, true, true, true, true, true, true, true, true, true, true, true, true, true, true, true, true, true, true, true, true, true, true, true, true, true, true, true, true, true, true, true, true, true, true, true, true, true, true, false, false] rfl rfl (by kernel_rfl) (fun _ _ _ h => h) (Or.inr ⟨by rfl, rfl⟩) ?_ ?_
      rotate_left
      · simp only [Act.put, List.setIfInBounds_toArray, List.set_cons_zero, List.set_cons_succ, i64_w, i32_w]
        rfl
      refine pure_ (i := 43) (N := some 51) (v := undef) (a' := ?_) #[true, true, true, true, true, true, true, true, true, true, true, true, true, true, true, true, true, true, true, true, true, true, true, true, true, true, true, true, true, true, true, true, true, true, true, true, true, true, true, true, true, true, true, true, false] rfl rfl (by kernel_rfl) (fun _ _ _ h => h) (Or.inr ⟨by rfl, rfl⟩) ?_ ?_
      rotate_left
      · simp only [Act.put, List.setIfInBounds_toArray, List.set_cons_zero, List.set_cons_succ, i64_w, i32_w]
        rfl
      refine pure_ (i := 44) (N := some 52) (v := ?_) (a' := ?_) #[true, true, true, true, true, true, true, true, true, true, true, true, true, true, true, true, true, true, true, true, true, true, true, true, true, true, true, true, true, true, true, true, true, true, true, true, true, true, true, true, true, true, true, true, true] rfl rfl (by kernel_rfl) (fun _ _ _ h => h) (Or.inl ⟨by rfl, ?_⟩) ?_ ?_
      rotate_left
      · intro w'
        go_simp
        with_reducible rfl
      rotate_left
      · simp only [Act.put, List.setIfInBounds_toArray, List.set_cons_zero, List.set_cons_succ, i64_w, i32_w]
        rfl
      refine done_ (by kernel_rfl) ?_
      have H2 := Aside0.mk (show path_inner.f2 k s p = some (r1, r2, r3, r4, r5, r6, r7, r8) from (if_neg (by rw [HA.out]; decide)).symm.trans HH.out)
      clear HA HH
      have HE := Aside0.mk HF3.out.held
      have hcaE := HE.out.ca
      have h := H2.out
      clear H2
      unfold path_inner.f2 at h
      obtain ⟨⟨c1, c2, c3⟩, A1, h⟩ := Option.bind_eq_some_iff.mp h
      dsimp only at A1 h
      have HA1 := Aside0.mk A1
      clear A1
      cases h64 : (c1 == 64) with
      | false =>
        rw [if_neg (by simpa using h64)] at h
        unfold path_inner.f3 at h
        obtain ⟨⟨m1, m2, m3, m4, m5, m6⟩, Ab, h⟩ := Option.bind_eq_some_iff.mp h
        dsimp only at Ab h
        simp only [Option.some.injEq, Prod.mk.injEq] at h
        obtain ⟨rfl, rfl, rfl, rfl, rfl, rfl, rfl, rfl⟩ := h
        have HAb := Aside0.mk Ab
        clear Ab
        go_wp2_with (first
          | (go_at_call 115; refine (path_reader_peek.calls g s p c1 c2 c3 w0 _ HE.out.st HE.out.bl HA1.out).mono ?_; rintro e w4 ⟨rfl, hi, hb, hk⟩; have HE4 := Aside0.mk (HE.out.call hi hb hk); have hca4 := HE4.out.ca; clear hi hb hk)
          | (go_at_call 71; refine (path_reader_box.calls k g c2 c3 m1 m2 m3 m4 m5 m6 w0 _ HE4.out.st HE4.out.bl HG.out HAb.out).mono ?_; rintro e w9 ⟨rfl, hi, hb, hk⟩; have HE9 := Aside0.mk (HE4.out.call hi hb hk); have hbf0 := HE9.out.fb 0; have hbf1 := HE9.out.fb 1; have hbf2 := HE9.out.fb 2; have hbf3 := HE9.out.fb 3; have hbf4 := HE9.out.fb 4; have hbc0 : w9.cell? ⟨w3.heap.size, 0, none⟩ = some (Value.bool false) := (blk_cell HE9.out.hb 0).trans rfl; have hbc1 : w9.cell? ⟨w3.heap.size, 1, none⟩ = some (Value.slice none 0 0) := (blk_cell HE9.out.hb 1).trans rfl; have hbc2 : w9.cell? ⟨w3.heap.size, 2, none⟩ = some (Value.string ⟨#[]⟩) := (blk_cell HE9.out.hb 2).trans rfl; have hbc3 : w9.cell? ⟨w3.heap.size, 3, none⟩ = some (Value.string ⟨#[]⟩) := (blk_cell HE9.out.hb 3).trans rfl; have hbc4 : w9.cell? ⟨w3.heap.size, 4, none⟩ = some (Value.bool false) := (blk_cell HE9.out.hb 4).trans rfl; have hkf0 := blk_frozen HE9.out.hc 0; have hkf1 := blk_frozen HE9.out.hc 1; have hkf2 := blk_frozen HE9.out.hc 2; have hkf3 := blk_frozen HE9.out.hc 3; have hkf4 := blk_frozen HE9.out.hc 4; have hkc0 : w9.cell? ⟨w.heap.size + 1, 0, none⟩ = some (Value.bool false) := (blk_cell HE9.out.hc 0).trans rfl; have hkc1 : w9.cell? ⟨w.heap.size + 1, 1, none⟩ = some (Value.slice none 0 0) := (blk_cell HE9.out.hc 1).trans rfl; have hkc2 : w9.cell? ⟨w.heap.size + 1, 2, none⟩ = some (Value.string ⟨#[]⟩) := (blk_cell HE9.out.hc 2).trans rfl; have hkc3 : w9.cell? ⟨w.heap.size + 1, 3, none⟩ = some (Value.string ⟨#[]⟩) := (blk_cell HE9.out.hc 3).trans rfl; have hkc4 : w9.cell? ⟨w.heap.size + 1, 4, none⟩ = some (Value.bool false) := (blk_cell HE9.out.hc 4).trans rfl; have hnb : w.heap.size + 1 ≠ w3.heap.size := Nat.ne_of_lt HE9.out.gb; have hnb2 : w3.heap.size ≠ w.heap.size + 1 := (Nat.ne_of_lt HE9.out.gb).symm; clear hi hb hk))
        have H8 := HE9.out.box (.string m1) (.string m2) (.bool m3) rfl
        have H9 := store5 (.bool false) (.slice none 0 0) (.string m1) (.string m2) (.bool m3) H8.2.1 H8.2.2.1 H8.2.2.2.1 HE9.out.sz (Nat.le_succ _) H8.2.2.2.2.2 rfl
        refine bodyPost_ret (results_ct rfl _ _ (w.heap.size + 1) 32 #[.bool false, .slice none 0 0, .string m1, .string m2, .bool m3] (0, 0) _ rfl H9.1 Tryz.underlying32 rfl (by kernel_rfl)) rfl ?_
        exact ⟨_, rfl, H9.2.2.2.2 _ _ H8.2.2.2.2.1, H9.2.1, H9.2.2.1, H9.2.2.2.1⟩
      | true =>
        rw [if_pos (by simpa using h64)] at h
        obtain ⟨⟨l1, l2, l3, l4⟩, A2, h⟩ := Option.bind_eq_some_iff.mp h
        dsimp only at A2 h
        have HA2 := Aside0.mk A2
        clear A2
        cases l1 with
        | false =>
          rw [if_neg (by decide)] at h
          simp only [Option.some.injEq, Prod.mk.injEq] at h
          obtain ⟨rfl, rfl, rfl, rfl, rfl, rfl, rfl, rfl⟩ := h
          go_wp2_with (first
            | (go_at_call 115; refine (path_reader_peek.calls g s p c1 c2 c3 w0 _ HE.out.st HE.out.bl HA1.out).mono ?_; rintro e w4 ⟨rfl, hi, hb, hk⟩; have HE4 := Aside0.mk (HE.out.call hi hb hk); have hca4 := HE4.out.ca; clear hi hb hk)
            | (go_at_call 67; refine (path_list_inner.calls k g _ _ c2 c3 _ [] false l2 l3 l4 w0 w _ HE4.out HA2.out).mono ?_; rintro e w5 ⟨rfl, v5, h5⟩; have HE5 := Aside0.mk h5; have hca5 := HE5.out.ca; clear h5; have hkf0 := blk_frozen HE5.out.hc 0; have hkf1 := blk_frozen HE5.out.hc 1; have hkf2 := blk_frozen HE5.out.hc 2; have hkf3 := blk_frozen HE5.out.hc 3; have hkf4 := blk_frozen HE5.out.hc 4; have hkc0 : w5.cell? ⟨w.heap.size + 1, 0, none⟩ = some (Value.bool false) := (blk_cell HE5.out.hc 0).trans rfl; have hkc1 : w5.cell? ⟨w.heap.size + 1, 1, none⟩ = some (Value.slice none 0 0) := (blk_cell HE5.out.hc 1).trans rfl; have hkc2 : w5.cell? ⟨w.heap.size + 1, 2, none⟩ = some (Value.string ⟨#[]⟩) := (blk_cell HE5.out.hc 2).trans rfl; have hkc3 : w5.cell? ⟨w.heap.size + 1, 3, none⟩ = some (Value.string ⟨#[]⟩) := (blk_cell HE5.out.hc 3).trans rfl; have hkc4 : w5.cell? ⟨w.heap.size + 1, 4, none⟩ = some (Value.bool false) := (blk_cell HE5.out.hc 4).trans rfl))
          have H9 := store5 (W := w5) (.bool false) (.slice none 0 0) (.string ⟨#[]⟩) (.string ⟨#[]⟩) (.bool false) HE5.out.st HE5.out.bl HE5.out.kp HE5.out.sz (Nat.le_succ _) HE5.out.hc rfl
          refine bodyPost_ret (results_ct rfl _ _ (w.heap.size + 1) 32 #[.bool false, .slice none 0 0, .string ⟨#[]⟩, .string ⟨#[]⟩, .bool false] (0, 0) _ rfl H9.1 Tryz.underlying32 rfl (by kernel_rfl)) rfl ?_
          exact ⟨_, rfl, Kd.R_nil _ _ _ _ _, H9.2.1, H9.2.2.1, H9.2.2.2.1⟩
        | true =>
          rw [if_pos rfl] at h
          obtain ⟨⟨u1, u2, u3⟩, A3, h⟩ := Option.bind_eq_some_iff.mp h
          dsimp only at A3 h
          have HA3 := Aside0.mk A3
          clear A3
          cases u1 with
          | false =>
            rw [if_neg (by decide)] at h
            simp only [Option.some.injEq, Prod.mk.injEq] at h
            obtain ⟨rfl, rfl, rfl, rfl, rfl, rfl, rfl, rfl⟩ := h
            go_wp2_with (first
              | (go_at_call 115; refine (path_reader_peek.calls g s p c1 c2 c3 w0 _ HE.out.st HE.out.bl HA1.out).mono ?_; rintro e w4 ⟨rfl, hi, hb, hk⟩; have HE4 := Aside0.mk (HE.out.call hi hb hk); have hca4 := HE4.out.ca; clear hi hb hk)
              | (go_at_call 67; refine (path_list_inner.calls k g _ _ c2 c3 _ [] true l2 l3 l4 w0 w _ HE4.out HA2.out).mono ?_; rintro e w5 ⟨rfl, v5, h5⟩; have HE5 := Aside0.mk h5; have hca5 := HE5.out.ca; clear h5)
              | (go_at_call 56; refine (path_reader_take.calls g l2 l3 58 false u2 u3 w0 _ HE5.out.st HE5.out.bl HA3.out).mono ?_; rintro e w6 ⟨rfl, hi, hb, hk⟩; have HE6 := Aside0.mk (HE5.out.call hi hb hk); have hca6 := HE6.out.ca; clear hi hb hk; have hkf0 := blk_frozen HE6.out.hc 0; have hkf1 := blk_frozen HE6.out.hc 1; have hkf2 := blk_frozen HE6.out.hc 2; have hkf3 := blk_frozen HE6.out.hc 3; have hkf4 := blk_frozen HE6.out.hc 4; have hkc0 : w6.cell? ⟨w.heap.size + 1, 0, none⟩ = some (Value.bool false) := (blk_cell HE6.out.hc 0).trans rfl; have hkc1 : w6.cell? ⟨w.heap.size + 1, 1, none⟩ = some (Value.slice none 0 0) := (blk_cell HE6.out.hc 1).trans rfl; have hkc2 : w6.cell? ⟨w.heap.size + 1, 2, none⟩ = some (Value.string ⟨#[]⟩) := (blk_cell HE6.out.hc 2).trans rfl; have hkc3 : w6.cell? ⟨w.heap.size + 1, 3, none⟩ = some (Value.string ⟨#[]⟩) := (blk_cell HE6.out.hc 3).trans rfl; have hkc4 : w6.cell? ⟨w.heap.size + 1, 4, none⟩ = some (Value.bool false) := (blk_cell HE6.out.hc 4).trans rfl))
            have H9 := store5 (W := w6) (.bool false) (.slice none 0 0) (.string ⟨#[]⟩) (.string ⟨#[]⟩) (.bool false) HE6.out.st HE6.out.bl HE6.out.kp HE6.out.sz (Nat.le_succ _) HE6.out.hc rfl
            refine bodyPost_ret (results_ct rfl _ _ (w.heap.size + 1) 32 #[.bool false, .slice none 0 0, .string ⟨#[]⟩, .string ⟨#[]⟩, .bool false] (0, 0) _ rfl H9.1 Tryz.underlying32 rfl (by kernel_rfl)) rfl ?_
            exact ⟨_, rfl, Kd.R_nil _ _ _ _ _, H9.2.1, H9.2.2.1, H9.2.2.2.1⟩
          | true =>
            rw [if_pos rfl] at h
            unfold path_inner.f3 at h
            obtain ⟨⟨m1, m2, m3, m4, m5, m6⟩, Ab, h⟩ := Option.bind_eq_some_iff.mp h
            dsimp only at Ab h
            simp only [Option.some.injEq, Prod.mk.injEq] at h
            obtain ⟨rfl, rfl, rfl, rfl, rfl, rfl, rfl, rfl⟩ := h
            have HAb := Aside0.mk Ab
            clear Ab
            go_wp2_with (first
              | (go_at_call 115; refine (path_reader_peek.calls g s p c1 c2 c3 w0 _ HE.out.st HE.out.bl HA1.out).mono ?_; rintro e w4 ⟨rfl, hi, hb, hk⟩; have HE4 := Aside0.mk (HE.out.call hi hb hk); have hca4 := HE4.out.ca; clear hi hb hk)
              | (go_at_call 67; refine (path_list_inner.calls k g _ _ c2 c3 _ [] true l2 l3 l4 w0 w _ HE4.out HA2.out).mono ?_; rintro e w5 ⟨rfl, v5, h5⟩; have HE5 := Aside0.mk h5; have hca5 := HE5.out.ca; clear h5)
              | (go_at_call 56; refine (path_reader_take.calls g l2 l3 58 true u2 u3 w0 _ HE5.out.st HE5.out.bl HA3.out).mono ?_; rintro e w6 ⟨rfl, hi, hb, hk⟩; have HE6 := Aside0.mk (HE5.out.call hi hb hk); have hca6 := HE6.out.ca; clear hi hb hk)
              | (go_at_call 71; refine (path_reader_box.calls k g u2 u3 m1 m2 m3 m4 m5 m6 w0 _ HE6.out.st HE6.out.bl HG.out HAb.out).mono ?_; rintro e w9 ⟨rfl, hi, hb, hk⟩; have HE9 := Aside0.mk (HE6.out.call hi hb hk); obtain ⟨A9, c9, e9⟩ := Kd.R_slice HE9.out.hr; subst e9; have hbf0 := HE9.out.fb 0; have hbf1 := HE9.out.fb 1; have hbf2 := HE9.out.fb 2; have hbf3 := HE9.out.fb 3; have hbf4 := HE9.out.fb 4; have hbc0 : w9.cell? ⟨w3.heap.size, 0, none⟩ = some (Value.bool false) := (blk_cell HE9.out.hb 0).trans rfl; have hbc1 : w9.cell? ⟨w3.heap.size, 1, none⟩ = some (Value.slice A9 l4.length c9) := (blk_cell HE9.out.hb 1).trans rfl; have hbc2 : w9.cell? ⟨w3.heap.size, 2, none⟩ = some (Value.string ⟨#[]⟩) := (blk_cell HE9.out.hb 2).trans rfl; have hbc3 : w9.cell? ⟨w3.heap.size, 3, none⟩ = some (Value.string ⟨#[]⟩) := (blk_cell HE9.out.hb 3).trans rfl; have hbc4 : w9.cell? ⟨w3.heap.size, 4, none⟩ = some (Value.bool false) := (blk_cell HE9.out.hb 4).trans rfl; have hkf0 := blk_frozen HE9.out.hc 0; have hkf1 := blk_frozen HE9.out.hc 1; have hkf2 := blk_frozen HE9.out.hc 2; have hkf3 := blk_frozen HE9.out.hc 3; have hkf4 := blk_frozen HE9.out.hc 4; have hkc0 : w9.cell? ⟨w.heap.size + 1, 0, none⟩ = some (Value.bool false) := (blk_cell HE9.out.hc 0).trans rfl; have hkc1 : w9.cell? ⟨w.heap.size + 1, 1, none⟩ = some (Value.slice none 0 0) := (blk_cell HE9.out.hc 1).trans rfl; have hkc2 : w9.cell? ⟨w.heap.size + 1, 2, none⟩ = some (Value.string ⟨#[]⟩) := (blk_cell HE9.out.hc 2).trans rfl; have hkc3 : w9.cell? ⟨w.heap.size + 1, 3, none⟩ = some (Value.string ⟨#[]⟩) := (blk_cell HE9.out.hc 3).trans rfl; have hkc4 : w9.cell? ⟨w.heap.size + 1, 4, none⟩ = some (Value.bool false) := (blk_cell HE9.out.hc 4).trans rfl; have hnb : w.heap.size + 1 ≠ w3.heap.size := Nat.ne_of_lt HE9.out.gb; have hnb2 : w3.heap.size ≠ w.heap.size + 1 := (Nat.ne_of_lt HE9.out.gb).symm; clear hi hb hk))
            have H8 := HE9.out.box (.string m1) (.string m2) (.bool m3) rfl
            have H9 := store5 (.bool false) (.slice A9 l4.length c9) (.string m1) (.string m2) (.bool m3) H8.2.1 H8.2.2.1 H8.2.2.2.1 HE9.out.sz (Nat.le_succ _) H8.2.2.2.2.2 rfl
            refine bodyPost_ret (results_ct rfl _ _ (w.heap.size + 1) 32 #[.bool false, .slice A9 l4.length c9, .string m1, .string m2, .bool m3] (0, 0) _ rfl H9.1 Tryz.underlying32 rfl (by kernel_rfl)) rfl ?_
            exact ⟨_, rfl, H9.2.2.2.2 _ _ H8.2.2.2.2.1, H9.2.1, H9.2.2.1, H9.2.2.2.1⟩
    | true =>
      cases h62 : (bt s (p + 10) == 62) with
      | false =>
        have HA := Aside0.mk (show isAlone s p = false by unfold isAlone; rw [HX.out, hq, h62]; simp)
        go_region_held3 (fun w' => w'.cell? ⟨w.heap.size, 0, none⟩ = some (.pointer (some ⟨g, 0, none⟩)) ∧ w'.cell? ⟨g, 0, none⟩ = some (.string s) ∧ w'.cell? ⟨g, 1, none⟩ = some (.int .i64 p) ∧ Aside0 (Front w0 w w' g s p)) (first | exact ⟨hca, hc0, hc1, Aside0.mk (HF.out.below (below_drew1 (Below.refl _ _)))⟩ | (refine ⟨?_, ?_, ?_, ?_⟩ <;> assumption))
          (first | (go_at_call 81; obtain ⟨_, _, _, hF⟩ := ‹_ ∧ _ ∧ _ ∧ Aside0 (Front w0 w _ g s p)›; refine (HC.out _).mono ?_; rintro e w3 ⟨rfl, hb⟩; have hF3 := Front.below hF.out hb; have HF3 := Aside0.mk hF3; clear hF hF3; have hca3 : w3.cell? ⟨w.heap.size, 0, none⟩ = some (.pointer (some ⟨g, 0, none⟩)) := (blk_cell HF3.out.ha 0).trans rfl; have hc03 : w3.cell? ⟨g, 0, none⟩ = some (.string s) := (blk_cell HF3.out.st.1 0).trans rfl; have hc13 : w3.cell? ⟨g, 1, none⟩ = some (.int .i64 p) := (blk_cell HF3.out.st.1 1).trans rfl; clear hb))
        have H2 := Aside0.mk (show path_inner.f2 k s p = some (r1, r2, r3, r4, r5, r6, r7, r8) from (if_neg (by rw [HA.out]; decide)).symm.trans HH.out)
        clear HA HH
        have HE := Aside0.mk HF3.out.held
        have hcaE := HE.out.ca
        have h := H2.out
        clear H2
        unfold path_inner.f2 at h
        obtain ⟨⟨c1, c2, c3⟩, A1, h⟩ := Option.bind_eq_some_iff.mp h
        dsimp only at A1 h
        have HA1 := Aside0.mk A1
        clear A1
        cases h64 : (c1 == 64) with
        | false =>
          rw [if_neg (by simpa using h64)] at h
          unfold path_inner.f3 at h
          obtain ⟨⟨m1, m2, m3, m4, m5, m6⟩, Ab, h⟩ := Option.bind_eq_some_iff.mp h
          dsimp only at Ab h
          simp only [Option.some.injEq, Prod.mk.injEq] at h
          obtain ⟨rfl, rfl, rfl, rfl, rfl, rfl, rfl, rfl⟩ := h
          have HAb := Aside0.mk Ab
          clear Ab
          go_wp2_with (first
            | (go_at_call 115; refine (path_reader_peek.calls g s p c1 c2 c3 w0 _ HE.out.st HE.out.bl HA1.out).mono ?_; rintro e w4 ⟨rfl, hi, hb, hk⟩; have HE4 := Aside0.mk (HE.out.call hi hb hk); have hca4 := HE4.out.ca; clear hi hb hk)
            | (go_at_call 71; refine (path_reader_box.calls k g c2 c3 m1 m2 m3 m4 m5 m6 w0 _ HE4.out.st HE4.out.bl HG.out HAb.out).mono ?_; rintro e w9 ⟨rfl, hi, hb, hk⟩; have HE9 := Aside0.mk (HE4.out.call hi hb hk); have hbf0 := HE9.out.fb 0; have hbf1 := HE9.out.fb 1; have hbf2 := HE9.out.fb 2; have hbf3 := HE9.out.fb 3; have hbf4 := HE9.out.fb 4; have hbc0 : w9.cell? ⟨w3.heap.size, 0, none⟩ = some (Value.bool false) := (blk_cell HE9.out.hb 0).trans rfl; have hbc1 : w9.cell? ⟨w3.heap.size, 1, none⟩ = some (Value.slice none 0 0) := (blk_cell HE9.out.hb 1).trans rfl; have hbc2 : w9.cell? ⟨w3.heap.size, 2, none⟩ = some (Value.string ⟨#[]⟩) := (blk_cell HE9.out.hb 2).trans rfl; have hbc3 : w9.cell? ⟨w3.heap.size, 3, none⟩ = some (Value.string ⟨#[]⟩) := (blk_cell HE9.out.hb 3).trans rfl; have hbc4 : w9.cell? ⟨w3.heap.size, 4, none⟩ = some (Value.bool false) := (blk_cell HE9.out.hb 4).trans rfl; have hkf0 := blk_frozen HE9.out.hc 0; have hkf1 := blk_frozen HE9.out.hc 1; have hkf2 := blk_frozen HE9.out.hc 2; have hkf3 := blk_frozen HE9.out.hc 3; have hkf4 := blk_frozen HE9.out.hc 4; have hkc0 : w9.cell? ⟨w.heap.size + 1, 0, none⟩ = some (Value.bool false) := (blk_cell HE9.out.hc 0).trans rfl; have hkc1 : w9.cell? ⟨w.heap.size + 1, 1, none⟩ = some (Value.slice none 0 0) := (blk_cell HE9.out.hc 1).trans rfl; have hkc2 : w9.cell? ⟨w.heap.size + 1, 2, none⟩ = some (Value.string ⟨#[]⟩) := (blk_cell HE9.out.hc 2).trans rfl; have hkc3 : w9.cell? ⟨w.heap.size + 1, 3, none⟩ = some (Value.string ⟨#[]⟩) := (blk_cell HE9.out.hc 3).trans rfl; have hkc4 : w9.cell? ⟨w.heap.size + 1, 4, none⟩ = some (Value.bool false) := (blk_cell HE9.out.hc 4).trans rfl; have hnb : w.heap.size + 1 ≠ w3.heap.size := Nat.ne_of_lt HE9.out.gb; have hnb2 : w3.heap.size ≠ w.heap.size + 1 := (Nat.ne_of_lt HE9.out.gb).symm; clear hi hb hk))
          have H8 := HE9.out.box (.string m1) (.string m2) (.bool m3) rfl
          have H9 := store5 (.bool false) (.slice none 0 0) (.string m1) (.string m2) (.bool m3) H8.2.1 H8.2.2.1 H8.2.2.2.1 HE9.out.sz (Nat.le_succ _) H8.2.2.2.2.2 rfl
          refine bodyPost_ret (results_ct rfl _ _ (w.heap.size + 1) 32 #[.bool false, .slice none 0 0, .string m1, .string m2, .bool m3] (0, 0) _ rfl H9.1 Tryz.underlying32 rfl (by kernel_rfl)) rfl ?_
          exact ⟨_, rfl, H9.2.2.2.2 _ _ H8.2.2.2.2.1, H9.2.1, H9.2.2.1, H9.2.2.2.1⟩
        | true =>
          rw [if_pos (by simpa using h64)] at h
          obtain ⟨⟨l1, l2, l3, l4⟩, A2, h⟩ := Option.bind_eq_some_iff.mp h
          dsimp only at A2 h
          have HA2 := Aside0.mk A2
          clear A2
          cases l1 with
          | false =>
            rw [if_neg (by decide)] at h
            simp only [Option.some.injEq, Prod.mk.injEq] at h
            obtain ⟨rfl, rfl, rfl, rfl, rfl, rfl, rfl, rfl⟩ := h
            go_wp2_with (first
              | (go_at_call 115; refine (path_reader_peek.calls g s p c1 c2 c3 w0 _ HE.out.st HE.out.bl HA1.out).mono ?_; rintro e w4 ⟨rfl, hi, hb, hk⟩; have HE4 := Aside0.mk (HE.out.call hi hb hk); have hca4 := HE4.out.ca; clear hi hb hk)
              | (go_at_call 67; refine (path_list_inner.calls k g _ _ c2 c3 _ [] false l2 l3 l4 w0 w _ HE4.out HA2.out).mono ?_; rintro e w5 ⟨rfl, v5, h5⟩; have HE5 := Aside0.mk h5; have hca5 := HE5.out.ca; clear h5; have hkf0 := blk_frozen HE5.out.hc 0; have hkf1 := blk_frozen HE5.out.hc 1; have hkf2 := blk_frozen HE5.out.hc 2; have hkf3 := blk_frozen HE5.out.hc 3; have hkf4 := blk_frozen HE5.out.hc 4; have hkc0 : w5.cell? ⟨w.heap.size + 1, 0, none⟩ = some (Value.bool false) := (blk_cell HE5.out.hc 0).trans rfl; have hkc1 : w5.cell? ⟨w.heap.size + 1, 1, none⟩ = some (Value.slice none 0 0) := (blk_cell HE5.out.hc 1).trans rfl; have hkc2 : w5.cell? ⟨w.heap.size + 1, 2, none⟩ = some (Value.string ⟨#[]⟩) := (blk_cell HE5.out.hc 2).trans rfl; have hkc3 : w5.cell? ⟨w.heap.size + 1, 3, none⟩ = some (Value.string ⟨#[]⟩) := (blk_cell HE5.out.hc 3).trans rfl; have hkc4 : w5.cell? ⟨w.heap.size + 1, 4, none⟩ = some (Value.bool false) := (blk_cell HE5.out.hc 4).trans rfl))
            have H9 := store5 (W := w5) (.bool false) (.slice none 0 0) (.string ⟨#[]⟩) (.string ⟨#[]⟩) (.bool false) HE5.out.st HE5.out.bl HE5.out.kp HE5.out.sz (Nat.le_succ _) HE5.out.hc rfl
            refine bodyPost_ret (results_ct rfl _ _ (w.heap.size + 1) 32 #[.bool false, .slice none 0 0, .string ⟨#[]⟩, .string ⟨#[]⟩, .bool false] (0, 0) _ rfl H9.1 Tryz.underlying32 rfl (by kernel_rfl)) rfl ?_
            exact ⟨_, rfl, Kd.R_nil _ _ _ _ _, H9.2.1, H9.2.2.1, H9.2.2.2.1⟩
          | true =>
            rw [if_pos rfl] at h
            obtain ⟨⟨u1, u2, u3⟩, A3, h⟩ := Option.bind_eq_some_iff.mp h
            dsimp only at A3 h
            have HA3 := Aside0.mk A3
            clear A3
            cases u1 with
            | false =>
              rw [if_neg (by decide)] at h
              simp only [Option.some.injEq, Prod.mk.injEq] at h
              obtain ⟨rfl, rfl, rfl, rfl, rfl, rfl, rfl, rfl⟩ := h
              go_wp2_with (first
                | (go_at_call 115; refine (path_reader_peek.calls g s p c1 c2 c3 w0 _ HE.out.st HE.out.bl HA1.out).mono ?_; rintro e w4 ⟨rfl, hi, hb, hk⟩; have HE4 := Aside0.mk (HE.out.call hi hb hk); have hca4 := HE4.out.ca; clear hi hb hk)
                | (go_at_call 67; refine (path_list_inner.calls k g _ _ c2 c3 _ [] true l2 l3 l4 w0 w _ HE4.out HA2.out).mono ?_; rintro e w5 ⟨rfl, v5, h5⟩; have HE5 := Aside0.mk h5; have hca5 := HE5.out.ca; clear h5)
                | (go_at_call 56; refine (path_reader_take.calls g l2 l3 58 false u2 u3 w0 _ HE5.out.st HE5.out.bl HA3.out).mono ?_; rintro e w6 ⟨rfl, hi, hb, hk⟩; have HE6 := Aside0.mk (HE5.out.call hi hb hk); have hca6 := HE6.out.ca; clear hi hb hk; have hkf0 := blk_frozen HE6.out.hc 0; have hkf1 := blk_frozen HE6.out.hc 1; have hkf2 := blk_frozen HE6.out.hc 2; have hkf3 := blk_frozen HE6.out.hc 3; have hkf4 := blk_frozen HE6.out.hc 4; have hkc0 : w6.cell? ⟨w.heap.size + 1, 0, none⟩ = some (Value.bool false) := (blk_cell HE6.out.hc 0).trans rfl; have hkc1 : w6.cell? ⟨w.heap.size + 1, 1, none⟩ = some (Value.slice none 0 0) := (blk_cell HE6.out.hc 1).trans rfl; have hkc2 : w6.cell? ⟨w.heap.size + 1, 2, none⟩ = some (Value.string ⟨#[]⟩) := (blk_cell HE6.out.hc 2).trans rfl; have hkc3 : w6.cell? ⟨w.heap.size + 1, 3, none⟩ = some (Value.string ⟨#[]⟩) := (blk_cell HE6.out.hc 3).trans rfl; have hkc4 : w6.cell? ⟨w.heap.size + 1, 4, none⟩ = some (Value.bool false) := (blk_cell HE6.out.hc 4).trans rfl))
              have H9 := store5 (W := w6) (.bool false) (.slice none 0 0) (.string ⟨#[]⟩) (.string ⟨#[]⟩) (.bool false) HE6.out.st HE6.out.bl HE6.out.kp HE6.out.sz (Nat.le_succ _) HE6.out.hc rfl
              refine bodyPost_ret (results_ct rfl _ _ (w.heap.size + 1) 32 #[.bool false, .slice none 0 0, .string ⟨#[]⟩, .string ⟨#[]⟩, .bool false] (0, 0) _ rfl H9.1 Tryz.underlying32 rfl (by kernel_rfl)) rfl ?_
              exact ⟨_, rfl, Kd.R_nil _ _ _ _ _, H9.2.1, H9.2.2.1, H9.2.2.2.1⟩
            | true =>
              rw [if_pos rfl] at h
              unfold path_inner.f3 at h
              obtain ⟨⟨m1, m2, m3, m4, m5, m6⟩, Ab, h⟩ := Option.bind_eq_some_iff.mp h
              dsimp only at Ab h
              simp only [Option.some.injEq, Prod.mk.injEq] at h
              obtain ⟨rfl, rfl, rfl, rfl, rfl, rfl, rfl, rfl⟩ := h
              have HAb := Aside0.mk Ab
              clear Ab
              go_wp2_with (first
                | (go_at_call 115; refine (path_reader_peek.calls g s p c1 c2 c3 w0 _ HE.out.st HE.out.bl HA1.out).mono ?_; rintro e w4 ⟨rfl, hi, hb, hk⟩; have HE4 := Aside0.mk (HE.out.call hi hb hk); have hca4 := HE4.out.ca; clear hi hb hk)
                | (go_at_call 67; refine (path_list_inner.calls k g _ _ c2 c3 _ [] true l2 l3 l4 w0 w _ HE4.out HA2.out).mono ?_; rintro e w5 ⟨rfl, v5, h5⟩; have HE5 := Aside0.mk h5; have hca5 := HE5.out.ca; clear h5)
                | (go_at_call 56; refine (path_reader_take.calls g l2 l3 58 true u2 u3 w0 _ HE5.out.st HE5.out.bl HA3.out).mono ?_; rintro e w6 ⟨rfl, hi, hb, hk⟩; have HE6 := Aside0.mk (HE5.out.call hi hb hk); have hca6 := HE6.out.ca; clear hi hb hk)
                | (go_at_call 71; refine (path_reader_box.calls k g u2 u3 m1 m2 m3 m4 m5 m6 w0 _ HE6.out.st HE6.out.bl HG.out HAb.out).mono ?_; rintro e w9 ⟨rfl, hi, hb, hk⟩; have HE9 := Aside0.mk (HE6.out.call hi hb hk); obtain ⟨A9, c9, e9⟩ := Kd.R_slice HE9.out.hr; subst e9; have hbf0 := HE9.out.fb 0; have hbf1 := HE9.out.fb 1; have hbf2 := HE9.out.fb 2; have hbf3 := HE9.out.fb 3; have hbf4 := HE9.out.fb 4; have hbc0 : w9.cell? ⟨w3.heap.size, 0, none⟩ = some (Value.bool false) := (blk_cell HE9.out.hb 0).trans rfl; have hbc1 : w9.cell? ⟨w3.heap.size, 1, none⟩ = some (Value.slice A9 l4.length c9) := (blk_cell HE9.out.hb 1).trans rfl; have hbc2 : w9.cell? ⟨w3.heap.size, 2, none⟩ = some (Value.string ⟨#[]⟩) := (blk_cell HE9.out.hb 2).trans rfl; have hbc3 : w9.cell? ⟨w3.heap.size, 3, none⟩ = some (Value.string ⟨#[]⟩) := (blk_cell HE9.out.hb 3).trans rfl; have hbc4 : w9.cell? ⟨w3.heap.size, 4, none⟩ = some (Value.bool false) := (blk_cell HE9.out.hb 4).trans rfl; have hkf0 := blk_frozen HE9.out.hc 0; have hkf1 := blk_frozen HE9.out.hc 1; have hkf2 := blk_frozen HE9.out.hc 2; have hkf3 := blk_frozen HE9.out.hc 3; have hkf4 := blk_frozen HE9.out.hc 4; have hkc0 : w9.cell? ⟨w.heap.size + 1, 0, none⟩ = some (Value.bool false) := (blk_cell HE9.out.hc 0).trans rfl; have hkc1 : w9.cell? ⟨w.heap.size + 1, 1, none⟩ = some (Value.slice none 0 0) := (blk_cell HE9.out.hc 1).trans rfl; have hkc2 : w9.cell? ⟨w.heap.size + 1, 2, none⟩ = some (Value.string ⟨#[]⟩) := (blk_cell HE9.out.hc 2).trans rfl; have hkc3 : w9.cell? ⟨w.heap.size + 1, 3, none⟩ = some (Value.string ⟨#[]⟩) := (blk_cell HE9.out.hc 3).trans rfl; have hkc4 : w9.cell? ⟨w.heap.size + 1, 4, none⟩ = some (Value.bool false) := (blk_cell HE9.out.hc 4).trans rfl; have hnb : w.heap.size + 1 ≠ w3.heap.size := Nat.ne_of_lt HE9.out.gb; have hnb2 : w3.heap.size ≠ w.heap.size + 1 := (Nat.ne_of_lt HE9.out.gb).symm; clear hi hb hk))
              have H8 := HE9.out.box (.string m1) (.string m2) (.bool m3) rfl
              have H9 := store5 (.bool false) (.slice A9 l4.length c9) (.string m1) (.string m2) (.bool m3) H8.2.1 H8.2.2.1 H8.2.2.2.1 HE9.out.sz (Nat.le_succ _) H8.2.2.2.2.2 rfl
              refine bodyPost_ret (results_ct rfl _ _ (w.heap.size + 1) 32 #[.bool false, .slice A9 l4.length c9, .string m1, .string m2, .bool m3] (0, 0) _ rfl H9.1 Tryz.underlying32 rfl (by kernel_rfl)) rfl ?_
              exact ⟨_, rfl, H9.2.2.2.2 _ _ H8.2.2.2.2.1, H9.2.1, H9.2.2.1, H9.2.2.2.1⟩
      | true =>
        have HA := Aside0.mk (show isAlone s p = true by unfold isAlone; rw [HX.out, hq, h62, decide_eq_true hr]; rfl)
        go_region_held3 (fun w' => w'.cell? ⟨w.heap.size, 0, none⟩ = some (.pointer (some ⟨g, 0, none⟩)) ∧ w'.cell? ⟨g, 0, none⟩ = some (.string s) ∧ w'.cell? ⟨g, 1, none⟩ = some (.int .i64 p) ∧ Aside0 (Front w0 w w' g s p)) (first | exact ⟨hca, hc0, hc1, Aside0.mk (HF.out.below (below_drew1 (Below.refl _ _)))⟩ | (refine ⟨?_, ?_, ?_, ?_⟩ <;> assumption))
          (first | (go_at_call 81; obtain ⟨_, _, _, hF⟩ := ‹_ ∧ _ ∧ _ ∧ Aside0 (Front w0 w _ g s p)›; refine (HC.out _).mono ?_; rintro e w3 ⟨rfl, hb⟩; have hF3 := Front.below hF.out hb; have HF3 := Aside0.mk hF3; clear hF hF3; have hca3 : w3.cell? ⟨w.heap.size, 0, none⟩ = some (.pointer (some ⟨g, 0, none⟩)) := (blk_cell HF3.out.ha 0).trans rfl; have hc03 : w3.cell? ⟨g, 0, none⟩ = some (.string s) := (blk_cell HF3.out.st.1 0).trans rfl; have hc13 : w3.cell? ⟨g, 1, none⟩ = some (.int .i64 p) := (blk_cell HF3.out.st.1 1).trans rfl; clear hb))
        have H2 := Aside0.mk ((if_pos HA.out).symm.trans HH.out)
        have h := H2.out
        simp only [Option.some.injEq, Prod.mk.injEq] at h
        obtain ⟨rfl, rfl, rfl, rfl, rfl, rfl, rfl, rfl⟩ := h
        clear H2 HH
        have hk1 : w3.frozen? ⟨g, 1, none⟩ = false := blk_frozen HF3.out.st.1 1
        have hkf0 := blk_frozen HF3.out.hc 0
        have hkf1 := blk_frozen HF3.out.hc 1
        have hkf2 := blk_frozen HF3.out.hc 2
        have hkf3 := blk_frozen HF3.out.hc 3
        have hkf4 := blk_frozen HF3.out.hc 4
        have hkc0 : w3.cell? ⟨w.heap.size + 1, 0, none⟩ = some (Value.bool false) := (blk_cell HF3.out.hc 0).trans rfl
        have hkc1 : w3.cell? ⟨w.heap.size + 1, 1, none⟩ = some (Value.slice none 0 0) := (blk_cell HF3.out.hc 1).trans rfl
        have hkc2 : w3.cell? ⟨w.heap.size + 1, 2, none⟩ = some (Value.string ⟨#[]⟩) := (blk_cell HF3.out.hc 2).trans rfl
        have hkc3 : w3.cell? ⟨w.heap.size + 1, 3, none⟩ = some (Value.string ⟨#[]⟩) := (blk_cell HF3.out.hc 3).trans rfl
        have hkc4 : w3.cell? ⟨w.heap.size + 1, 4, none⟩ = some (Value.bool false) := (blk_cell HF3.out.hc 4).trans rfl
        have hng : g ≠ w.heap.size + 1 := IsS82.ne_blk HF3.out.st HF3.out.hc (by decide)
        have hng2 := hng.symm
        go_wp2
        have H0 := HF3.out.set (p + 10)
        have H9 := store5 (.bool false) (.slice none 0 0) (.string aloneText) (.string ⟨#[]⟩) (.bool false) H0.st H0.bl H0.kp H0.sz (Nat.le_succ _) H0.hc rfl
        refine bodyPost_ret (results_ct rfl _ _ (w.heap.size + 1) 32 #[.bool false, .slice none 0 0, .string aloneText, .string ⟨#[]⟩, .bool false] (0, 0) _ rfl H9.1 Tryz.underlying32 rfl (by kernel_rfl)) rfl ?_
        exact ⟨_, rfl, Kd.R_nil _ _ _ _ _, H9.2.1, H9.2.2.1, H9.2.2.2.1⟩
end Go.Proofs.YtokpnfljjjjikaaGreatDoor.QCmd
