/-
  No cell of these rows narrows 'for every input' (looked for: loops, veiled, ifaces, maps, wideKeys, modest, calm, conditions, laid).
  DERIVED. THE GIVEN ROWS OF THIS SEAT. 2 by the template 'for every input the law returns true; each argument reads behind the call as it read before'; 0 by the template 'total and deterministic' (their statements: YtamldcgajgkjeaaTotals.lean).
  GIVEN WITH THE SEED: the statements are not yours to turn. If you find one false, say at which input.
  Laid BY PROGRAM, IN A SANDBOX (cutbox-rows.mjs): the forced cells as the released guide's own fill.sh prints them over the translation 8c51ad78082c67c0… (all of the seat's roots in one cut). By AI agents, Wed Nov 11 2026. No macro, syntax, notation, axiom, sorry.
-/
import Derived.Test.YtamldcgajgkjeaaChecked
import GoSem.Claim
import GoSem.ClaimJoined
import GoSem.ClaimMapViews
import Derived.JoinedTies
import Derived.KernelRfl
namespace Go.Proofs.Ytamldcgajgkjeaa
/- THE CELL 'sum', in the pinned program and in every row, IS THE sha256 OF THE DUMP (.gsa) THAT YtamldcgajgkjeaaProg.lean LOADS. Nothing in Lean hashes anything: it is a label: what it is worth is what the hold of that sum in a sandbox is worth. -/
noncomputable def Try.pinned : Pinned := { name := "ytamldcgajgkjeaa", sum := "8c51ad78082c67c05a887db0facf4032dcb1f1e27ef77ba93b7f8772a4430bc8", checked := Try.checked }
namespace Rows
def none {H : Type} : Left H := { results := [], args := [] }

/-- 'frankinglaw28.RetryDue': WHATEVER THE INPUT: true; the input reads as it did. -/
def retryDueSpec : ChangeSpec := { name := "retryDue", fn := fun _ => fun
  | [d1, d2, d3] => { results := [.lit (.bool true)], args := [d1, d2, d3] }
  | _ => none }
def retryDueRow : OpenClaim := { program := "ytamldcgajgkjeaa", sum := "8c51ad78082c67c05a887db0facf4032dcb1f1e27ef77ba93b7f8772a4430bc8", func := "franking/frankinglaw28.RetryDue", spec := "retryDue", unfollowed := true, recurses := true, apart := false }
def RetryDueSaid : Prop := retryDueRow.holds Try.pinned (OpenSpec.ofChange retryDueSpec)

/-- ITS FALSE NEIGHBOUR: 'it returns false'. Refute it at one input. -/
def retryDueWrong : ChangeSpec := { name := "retryDue", fn := fun _ => fun
  | [d1, d2, d3] => { results := [.lit (.bool false)], args := [d1, d2, d3] }
  | _ => none }
def RetryDueWrongFalsely : Prop := retryDueRow.holds Try.pinned (OpenSpec.ofChange retryDueWrong)

/-- 'frankinglaw28.RetryTries': WHATEVER THE INPUT: true; the input reads as it did. -/
def retryTriesSpec : ChangeSpec := { name := "retryTries", fn := fun _ => fun
  | [d1, d2, d3, d4] => { results := [.lit (.bool true)], args := [d1, d2, d3, d4] }
  | _ => none }
def retryTriesRow : OpenClaim := { program := "ytamldcgajgkjeaa", sum := "8c51ad78082c67c05a887db0facf4032dcb1f1e27ef77ba93b7f8772a4430bc8", func := "franking/frankinglaw28.RetryTries", spec := "retryTries", unfollowed := true, recurses := true, apart := false }
def RetryTriesSaid : Prop := retryTriesRow.holds Try.pinned (OpenSpec.ofChange retryTriesSpec)

/-- ITS FALSE NEIGHBOUR: 'it returns false'. Refute it at one input. -/
def retryTriesWrong : ChangeSpec := { name := "retryTries", fn := fun _ => fun
  | [d1, d2, d3, d4] => { results := [.lit (.bool false)], args := [d1, d2, d3, d4] }
  | _ => none }
def RetryTriesWrongFalsely : Prop := retryTriesRow.holds Try.pinned (OpenSpec.ofChange retryTriesWrong)

/- THE SECOND FORM. 'bulk': how many values and letters a reading holds, each counted each time it is reached (what is shared counts as often as it is met; a slice's spare places count too). A statement '..UptoSaid' is the law's where the arguments, and the package variables that the reading takes, are together of bulk at most 1048576: NARROWER than '..Said'. Prove '..Said' where nothing that the law and all that it calls make is longer than what came in: it says more and counts as full. Else prove '..UptoSaid'. A law counts once. -/
mutual
def uptoBulk {H : Type} : DataW H → Nat
  | .lit (.string bytes) => bytes.length + 1
  | .lit _ => 1
  | .nil => 1
  | .ptr d => uptoBulk d + 1
  | .slice elems spare => uptoBulkAll elems + uptoBulkAll spare + 1
  | .agg parts => uptoBulkAll parts + 1
  | .iface _ d => uptoBulk d + 1
  | .map entries => uptoBulkEntries entries + 1
  | .held _ => 1
def uptoBulkAll {H : Type} : List (DataW H) → Nat
  | [] => 0
  | d :: r => uptoBulk d + uptoBulkAll r
def uptoBulkEntries {H : Type} : List (Lit × DataW H) → Nat
  | [] => 0
  | x :: r => uptoBulkEntry x + uptoBulkEntries r
def uptoBulkEntry {H : Type} : Lit × DataW H → Nat
  | (.string bytes, d) => bytes.length + uptoBulk d + 1
  | (_, d) => uptoBulk d + 1
 end
def uptoSmall : (H : Type) → List (DataW H) → Bool := fun _ ds => decide (uptoBulkAll ds ≤ 1048576)
def OpenSpec.upto (s : _root_.Go.ChangeSpec) : _root_.Go.OpenSpec := { _root_.Go.OpenSpec.ofChange s with cond := some uptoSmall }

/-- 'frankinglaw28.RetryDue', WHERE WHAT IT READS IS OF BULK AT MOST 1048576: true; the input reads as it did. -/
def retryDueUptoRow : OpenClaim := { program := "ytamldcgajgkjeaa", sum := "8c51ad78082c67c05a887db0facf4032dcb1f1e27ef77ba93b7f8772a4430bc8", func := "franking/frankinglaw28.RetryDue", spec := "retryDue", unfollowed := true, recurses := true, apart := false, narrowed := true }
def RetryDueUptoSaid : Prop := retryDueUptoRow.holds Try.pinned (OpenSpec.upto retryDueSpec)

/-- 'frankinglaw28.RetryTries', WHERE WHAT IT READS IS OF BULK AT MOST 1048576: true; the input reads as it did. -/
def retryTriesUptoRow : OpenClaim := { program := "ytamldcgajgkjeaa", sum := "8c51ad78082c67c05a887db0facf4032dcb1f1e27ef77ba93b7f8772a4430bc8", func := "franking/frankinglaw28.RetryTries", spec := "retryTries", unfollowed := true, recurses := true, apart := false, narrowed := true }
def RetryTriesUptoSaid : Prop := retryTriesUptoRow.holds Try.pinned (OpenSpec.upto retryTriesSpec)

end Rows
end Go.Proofs.Ytamldcgajgkjeaa
