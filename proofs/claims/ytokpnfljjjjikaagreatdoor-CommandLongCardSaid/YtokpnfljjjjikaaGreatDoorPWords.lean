/- The variable 'words' of the package command: what is laid there, read. -/
import Derived.Test.YtokpnfljjjjikaaGreatDoorRows
import Derived.Test.YtokpnfljjjjikaaGreatDoorEStr
import Derived.Stop.LaidErr
import Derived.LaidMore
import Derived.ChangeArms
import Derived.KernelRfl
namespace Go.Proofs.YtokpnfljjjjikaaGreatDoor
open Go.ChangeShapes Go.WideShapes Go.RowKit
set_option linter.unusedVariables false
theorem words_of {r : List (String × DataW Unit)} {W : World} (h : laidMet Tryz.prog (("franking/command.words", Rows.laid_franking_command_words) :: r) W) : WordsOK W := by
  obtain ⟨ps, ⟨g0, t0, ⟨l0⟩, f0, p0, q0, hg0, ht0, hv0, hd0, _, e0⟩, _, _⟩ := h
  have hg : Tryz.prog.globalNamed "franking/command.words" = some 0 := by kernel_rfl
  have ht : (Tryz.prog.globals[(0 : Nat)]?).map (·.type) = some 28 := by kernel_rfl
  obtain rfl := Option.some.inj (hg.symm.trans hg0)
  obtain rfl := Option.some.inj (ht.symm.trans ht0)
  have hd1 : DataW.trod _ Tryz.prog W _ _ _ f0 28 l0 = some (.slice (wordsL.map fun x => .lit (.string x.data.toList)) [], p0) := hd0
  obtain ⟨a, cap, rfl, hl, hx⟩ := open_row Tryz.underlying28 (by kernel_rfl) hd1
  have hcell : ∀ (j : Nat) (x : ByteArray), wordsL[j]? = some x → W.cell? (a.add j) = some (.string x) := by
    intro j x hj
    obtain ⟨v, n, q, hc, htr⟩ := hx j (.lit (.string x.data.toList)) (by rw [List.getElem?_map, hj]; rfl)
    obtain ⟨s, e1, e2, _⟩ := DataW.trod_string Tryz.underlying9 htr
    obtain ⟨rfl, _⟩ := List.cons.inj e1
    have e3 : x.data.toList = s.data.toList := by
      have e4 := congrArg (fun z : DataW Unit × List MemPlace => z.1) e2
      simp only [DataW.lit.injEq, Lit.string.injEq] at e4
      exact e4
    have e5 : x = s := by
      obtain ⟨⟨l⟩⟩ := x
      obtain ⟨⟨m⟩⟩ := s
      simp at e3
      rw [e3]
    rw [hc, e5]
  have hsp : a.spot = none := by
    have h0 := hcell 0 _ rfl
    simp only [Addr.add, if_true] at h0
    unfold World.cell? at h0
    split at h0
    · split at h0
      · cases h0
      · rename_i h1
        cases hq : a.spot with
        | none => rfl
        | some y => rw [hq] at h1; exact absurd rfl h1
    · cases h0
  have hadd : ∀ j, a.add j = ⟨a.block, a.off + j, none⟩ := by
    intro j
    obtain ⟨b, o, sp⟩ := a
    simp only at hsp
    subst hsp
    unfold Addr.add
    split
    · rename_i h; subst h; rfl
    · rfl
  refine ⟨a.block, a.off, cap, ?_, fun j x hj => by rw [← hadd]; exact hcell j x hj⟩
  have h1 := World.var?_cell hg hv0 0
  have h2 : (⟨a.block, a.off, none⟩ : Addr) = a := by have := hadd 0; simp only [Addr.add, if_true] at this; exact this.symm
  rw [h2]
  simpa [wordsL] using h1
end Go.Proofs.YtokpnfljjjjikaaGreatDoor
