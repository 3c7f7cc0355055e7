/-
  No cell of these rows narrows 'for every input' (looked for: loops, veiled, ifaces, maps, wideKeys, modest, calm, conditions, laid).
  DERIVED. THE GIVEN ROWS OF THIS SEAT. 3 by the template 'for every input the law returns true; each argument reads behind the call as it read before'; 0 by the template 'total and deterministic' (their statements: YtmekflfjaflmkaaTotals.lean).
  GIVEN WITH THE SEED: the statements are not yours to turn. If you find one false, say at which input.
  Laid BY PROGRAM, IN A SANDBOX (cutbox-rows.mjs): the forced cells as the released guide's own fill.sh prints them over the translation 375dd3a35f8f5e61… (all of the seat's roots in one cut). By AI agents, Wed Nov 11 2026. No macro, syntax, notation, axiom, sorry.
-/
import Derived.Test.YtmekflfjaflmkaaChecked
import GoSem.Claim
import GoSem.ClaimJoined
import GoSem.ClaimMapViews
import Derived.JoinedTies
import Derived.KernelRfl
namespace Go.Proofs.Ytmekflfjaflmkaa
/- THE CELL 'sum', in the pinned program and in every row, IS THE sha256 OF THE DUMP (.gsa) THAT YtmekflfjaflmkaaProg.lean LOADS. Nothing in Lean hashes anything: it is a label: what it is worth is what the hold of that sum in a sandbox is worth. -/
noncomputable def Try.pinned : Pinned := { name := "ytmekflfjaflmkaa", sum := "375dd3a35f8f5e61a2810b3812074c5ed7c02c3b0faf204d71fed2a04b7f4c9e", checked := Try.checked }
namespace Rows
def none {H : Type} : Left H := { results := [], args := [] }

/-- 'saleroomlaw39.ClockEnds': WHATEVER THE INPUT: true; the input reads as it did. -/
def clockEndsSpec : ChangeSpec := { name := "clockEnds", fn := fun _ => fun
  | [d1, d2, d3] => { results := [.lit (.bool true)], args := [d1, d2, d3] }
  | _ => none }
def clockEndsRow : OpenClaim := { program := "ytmekflfjaflmkaa", sum := "375dd3a35f8f5e61a2810b3812074c5ed7c02c3b0faf204d71fed2a04b7f4c9e", func := "saleroom/saleroomlaw39.ClockEnds", spec := "clockEnds", unfollowed := true, recurses := true, apart := false }
def ClockEndsSaid : Prop := clockEndsRow.holds Try.pinned (OpenSpec.ofChange clockEndsSpec)

/-- ITS FALSE NEIGHBOUR: 'it returns false'. Refute it at one input. -/
def clockEndsWrong : ChangeSpec := { name := "clockEnds", fn := fun _ => fun
  | [d1, d2, d3] => { results := [.lit (.bool false)], args := [d1, d2, d3] }
  | _ => none }
def ClockEndsWrongFalsely : Prop := clockEndsRow.holds Try.pinned (OpenSpec.ofChange clockEndsWrong)

/-- 'saleroomlaw39.ClockResets': WHATEVER THE INPUT: true; the input reads as it did. -/
def clockResetsSpec : ChangeSpec := { name := "clockResets", fn := fun _ => fun
  | [d1, d2, d3, d4] => { results := [.lit (.bool true)], args := [d1, d2, d3, d4] }
  | _ => none }
def clockResetsRow : OpenClaim := { program := "ytmekflfjaflmkaa", sum := "375dd3a35f8f5e61a2810b3812074c5ed7c02c3b0faf204d71fed2a04b7f4c9e", func := "saleroom/saleroomlaw39.ClockResets", spec := "clockResets", unfollowed := true, recurses := true, apart := false }
def ClockResetsSaid : Prop := clockResetsRow.holds Try.pinned (OpenSpec.ofChange clockResetsSpec)

/-- ITS FALSE NEIGHBOUR: 'it returns false'. Refute it at one input. -/
def clockResetsWrong : ChangeSpec := { name := "clockResets", fn := fun _ => fun
  | [d1, d2, d3, d4] => { results := [.lit (.bool false)], args := [d1, d2, d3, d4] }
  | _ => none }
def ClockResetsWrongFalsely : Prop := clockResetsRow.holds Try.pinned (OpenSpec.ofChange clockResetsWrong)

/-- 'saleroomlaw39.ClockConsistent': WHATEVER THE INPUT: true; the input reads as it did. -/
def clockConsistentSpec : ChangeSpec := { name := "clockConsistent", fn := fun _ => fun
  | [d1, d2, d3] => { results := [.lit (.bool true)], args := [d1, d2, d3] }
  | _ => none }
def clockConsistentRow : OpenClaim := { program := "ytmekflfjaflmkaa", sum := "375dd3a35f8f5e61a2810b3812074c5ed7c02c3b0faf204d71fed2a04b7f4c9e", func := "saleroom/saleroomlaw39.ClockConsistent", spec := "clockConsistent", unfollowed := true, recurses := true, apart := false }
def ClockConsistentSaid : Prop := clockConsistentRow.holds Try.pinned (OpenSpec.ofChange clockConsistentSpec)

/-- ITS FALSE NEIGHBOUR: 'it returns false'. Refute it at one input. -/
def clockConsistentWrong : ChangeSpec := { name := "clockConsistent", fn := fun _ => fun
  | [d1, d2, d3] => { results := [.lit (.bool false)], args := [d1, d2, d3] }
  | _ => none }
def ClockConsistentWrongFalsely : Prop := clockConsistentRow.holds Try.pinned (OpenSpec.ofChange clockConsistentWrong)

/- THE SECOND FORM. 'bulk': how many values and letters a reading holds, each counted each time it is reached (what is shared counts as often as it is met; a slice's spare places count too). A statement '..UptoSaid' is the law's where the arguments, and the package variables that the reading takes, are together of bulk at most 1048576: NARROWER than '..Said'. Prove '..Said' where nothing that the law and all that it calls make is longer than what came in: it says more and counts as full. Else prove '..UptoSaid'. A law counts once. -/
mutual
def uptoBulk {H : Type} : DataW H → Nat
  | .lit (.string bytes) => bytes.length + 1
  | .lit _ => 1
  | .nil => 1
  | .ptr d => uptoBulk d + 1
  | .slice elems spare => uptoBulkAll elems + uptoBulkAll spare + 1
  | .agg parts => uptoBulkAll parts + 1
  | .iface _ d => uptoBulk d + 1
  | .map entries => uptoBulkEntries entries + 1
  | .held _ => 1
def uptoBulkAll {H : Type} : List (DataW H) → Nat
  | [] => 0
  | d :: r => uptoBulk d + uptoBulkAll r
def uptoBulkEntries {H : Type} : List (Lit × DataW H) → Nat
  | [] => 0
  | x :: r => uptoBulkEntry x + uptoBulkEntries r
def uptoBulkEntry {H : Type} : Lit × DataW H → Nat
  | (.string bytes, d) => bytes.length + uptoBulk d + 1
  | (_, d) => uptoBulk d + 1
 end
def uptoSmall : (H : Type) → List (DataW H) → Bool := fun _ ds => decide (uptoBulkAll ds ≤ 1048576)
def OpenSpec.upto (s : _root_.Go.ChangeSpec) : _root_.Go.OpenSpec := { _root_.Go.OpenSpec.ofChange s with cond := some uptoSmall }

/-- 'saleroomlaw39.ClockEnds', WHERE WHAT IT READS IS OF BULK AT MOST 1048576: true; the input reads as it did. -/
def clockEndsUptoRow : OpenClaim := { program := "ytmekflfjaflmkaa", sum := "375dd3a35f8f5e61a2810b3812074c5ed7c02c3b0faf204d71fed2a04b7f4c9e", func := "saleroom/saleroomlaw39.ClockEnds", spec := "clockEnds", unfollowed := true, recurses := true, apart := false, narrowed := true }
def ClockEndsUptoSaid : Prop := clockEndsUptoRow.holds Try.pinned (OpenSpec.upto clockEndsSpec)

/-- 'saleroomlaw39.ClockResets', WHERE WHAT IT READS IS OF BULK AT MOST 1048576: true; the input reads as it did. -/
def clockResetsUptoRow : OpenClaim := { program := "ytmekflfjaflmkaa", sum := "375dd3a35f8f5e61a2810b3812074c5ed7c02c3b0faf204d71fed2a04b7f4c9e", func := "saleroom/saleroomlaw39.ClockResets", spec := "clockResets", unfollowed := true, recurses := true, apart := false, narrowed := true }
def ClockResetsUptoSaid : Prop := clockResetsUptoRow.holds Try.pinned (OpenSpec.upto clockResetsSpec)

/-- 'saleroomlaw39.ClockConsistent', WHERE WHAT IT READS IS OF BULK AT MOST 1048576: true; the input reads as it did. -/
def clockConsistentUptoRow : OpenClaim := { program := "ytmekflfjaflmkaa", sum := "375dd3a35f8f5e61a2810b3812074c5ed7c02c3b0faf204d71fed2a04b7f4c9e", func := "saleroom/saleroomlaw39.ClockConsistent", spec := "clockConsistent", unfollowed := true, recurses := true, apart := false, narrowed := true }
def ClockConsistentUptoSaid : Prop := clockConsistentUptoRow.holds Try.pinned (OpenSpec.upto clockConsistentSpec)

end Rows
end Go.Proofs.Ytmekflfjaflmkaa
