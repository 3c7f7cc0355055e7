/-
  No cell of these rows narrows 'for every input' (looked for: loops, veiled, ifaces, maps, wideKeys, modest, calm, conditions, laid).
  DERIVED. THE GIVEN ROWS OF THIS SEAT. 6 by the template 'for every input the law returns true; each argument reads behind the call as it read before'; 0 by the template 'total and deterministic' (their statements: YtggjcdnailppoaaTotals.lean).
  GIVEN WITH THE SEED: the statements are not yours to turn. If you find one false, say at which input.
  Laid BY PROGRAM, IN A SANDBOX (cutbox-rows.mjs): the forced cells as the released guide's own fill.sh prints them over the translation 4052cfc496eb08ce… (all of the seat's roots in one cut). By AI agents, Wed Nov 11 2026. No macro, syntax, notation, axiom, sorry.
-/
import Derived.Test.YtggjcdnailppoaaChecked
import GoSem.Claim
import GoSem.ClaimJoined
import GoSem.ClaimMapViews
import Derived.JoinedTies
import Derived.KernelRfl
namespace Go.Proofs.Ytggjcdnailppoaa
/- THE CELL 'sum', in the pinned program and in every row, IS THE sha256 OF THE DUMP (.gsa) THAT YtggjcdnailppoaaProg.lean LOADS. Nothing in Lean hashes anything: it is a label: what it is worth is what the hold of that sum in a sandbox is worth. -/
noncomputable def Try.pinned : Pinned := { name := "ytggjcdnailppoaa", sum := "4052cfc496eb08ce7fbc058282f994b4065d49d0fbbe95f7eb92898be14c90d7", checked := Try.checked }
namespace Rows
def none {H : Type} : Left H := { results := [], args := [] }

/-- 'saleroomlaw40.RelcapClockbids': WHATEVER THE INPUT: true; the input reads as it did. -/
def relcapClockbidsSpec : ChangeSpec := { name := "relcapClockbids", fn := fun _ => fun
  | [d] => { results := [.lit (.bool true)], args := [d] }
  | _ => none }
def relcapClockbidsRow : OpenClaim := { program := "ytggjcdnailppoaa", sum := "4052cfc496eb08ce7fbc058282f994b4065d49d0fbbe95f7eb92898be14c90d7", func := "saleroom/saleroomlaw40.RelcapClockbids", spec := "relcapClockbids", unfollowed := true, recurses := true, apart := false }
def RelcapClockbidsSaid : Prop := relcapClockbidsRow.holds Try.pinned (OpenSpec.ofChange relcapClockbidsSpec)

/-- ITS FALSE NEIGHBOUR: 'it returns false'. Refute it at one input. -/
def relcapClockbidsWrong : ChangeSpec := { name := "relcapClockbids", fn := fun _ => fun
  | [d] => { results := [.lit (.bool false)], args := [d] }
  | _ => none }
def RelcapClockbidsWrongFalsely : Prop := relcapClockbidsRow.holds Try.pinned (OpenSpec.ofChange relcapClockbidsWrong)

/-- 'saleroomlaw40.RelcapMost': WHATEVER THE INPUT: true; the input reads as it did. -/
def relcapMostSpec : ChangeSpec := { name := "relcapMost", fn := fun _ => fun
  | [d1, d2, d3] => { results := [.lit (.bool true)], args := [d1, d2, d3] }
  | _ => none }
def relcapMostRow : OpenClaim := { program := "ytggjcdnailppoaa", sum := "4052cfc496eb08ce7fbc058282f994b4065d49d0fbbe95f7eb92898be14c90d7", func := "saleroom/saleroomlaw40.RelcapMost", spec := "relcapMost", unfollowed := true, recurses := true, apart := false }
def RelcapMostSaid : Prop := relcapMostRow.holds Try.pinned (OpenSpec.ofChange relcapMostSpec)

/-- ITS FALSE NEIGHBOUR: 'it returns false'. Refute it at one input. -/
def relcapMostWrong : ChangeSpec := { name := "relcapMost", fn := fun _ => fun
  | [d1, d2, d3] => { results := [.lit (.bool false)], args := [d1, d2, d3] }
  | _ => none }
def RelcapMostWrongFalsely : Prop := relcapMostRow.holds Try.pinned (OpenSpec.ofChange relcapMostWrong)

/-- 'saleroomlaw40.RelcapRaises': WHATEVER THE INPUT: true; the input reads as it did. -/
def relcapRaisesSpec : ChangeSpec := { name := "relcapRaises", fn := fun _ => fun
  | [d1, d2, d3, d4] => { results := [.lit (.bool true)], args := [d1, d2, d3, d4] }
  | _ => none }
def relcapRaisesRow : OpenClaim := { program := "ytggjcdnailppoaa", sum := "4052cfc496eb08ce7fbc058282f994b4065d49d0fbbe95f7eb92898be14c90d7", func := "saleroom/saleroomlaw40.RelcapRaises", spec := "relcapRaises", unfollowed := true, recurses := true, apart := false }
def RelcapRaisesSaid : Prop := relcapRaisesRow.holds Try.pinned (OpenSpec.ofChange relcapRaisesSpec)

/-- ITS FALSE NEIGHBOUR: 'it returns false'. Refute it at one input. -/
def relcapRaisesWrong : ChangeSpec := { name := "relcapRaises", fn := fun _ => fun
  | [d1, d2, d3, d4] => { results := [.lit (.bool false)], args := [d1, d2, d3, d4] }
  | _ => none }
def RelcapRaisesWrongFalsely : Prop := relcapRaisesRow.holds Try.pinned (OpenSpec.ofChange relcapRaisesWrong)

/-- 'saleroomlaw40.RelcapChecks': WHATEVER THE INPUT: true; the input reads as it did. -/
def relcapChecksSpec : ChangeSpec := { name := "relcapChecks", fn := fun _ => fun
  | [d1, d2] => { results := [.lit (.bool true)], args := [d1, d2] }
  | _ => none }
def relcapChecksRow : OpenClaim := { program := "ytggjcdnailppoaa", sum := "4052cfc496eb08ce7fbc058282f994b4065d49d0fbbe95f7eb92898be14c90d7", func := "saleroom/saleroomlaw40.RelcapChecks", spec := "relcapChecks", unfollowed := true, recurses := true, apart := false }
def RelcapChecksSaid : Prop := relcapChecksRow.holds Try.pinned (OpenSpec.ofChange relcapChecksSpec)

/-- ITS FALSE NEIGHBOUR: 'it returns false'. Refute it at one input. -/
def relcapChecksWrong : ChangeSpec := { name := "relcapChecks", fn := fun _ => fun
  | [d1, d2] => { results := [.lit (.bool false)], args := [d1, d2] }
  | _ => none }
def RelcapChecksWrongFalsely : Prop := relcapChecksRow.holds Try.pinned (OpenSpec.ofChange relcapChecksWrong)

/-- 'saleroomlaw40.RelcapTrims': WHATEVER THE INPUT: true; the input reads as it did. -/
def relcapTrimsSpec : ChangeSpec := { name := "relcapTrims", fn := fun _ => fun
  | [d1, d2] => { results := [.lit (.bool true)], args := [d1, d2] }
  | _ => none }
def relcapTrimsRow : OpenClaim := { program := "ytggjcdnailppoaa", sum := "4052cfc496eb08ce7fbc058282f994b4065d49d0fbbe95f7eb92898be14c90d7", func := "saleroom/saleroomlaw40.RelcapTrims", spec := "relcapTrims", unfollowed := true, recurses := true, apart := false }
def RelcapTrimsSaid : Prop := relcapTrimsRow.holds Try.pinned (OpenSpec.ofChange relcapTrimsSpec)

/-- ITS FALSE NEIGHBOUR: 'it returns false'. Refute it at one input. -/
def relcapTrimsWrong : ChangeSpec := { name := "relcapTrims", fn := fun _ => fun
  | [d1, d2] => { results := [.lit (.bool false)], args := [d1, d2] }
  | _ => none }
def RelcapTrimsWrongFalsely : Prop := relcapTrimsRow.holds Try.pinned (OpenSpec.ofChange relcapTrimsWrong)

/-- 'saleroomlaw40.RelcapConsistent': WHATEVER THE INPUT: true; the input reads as it did. -/
def relcapConsistentSpec : ChangeSpec := { name := "relcapConsistent", fn := fun _ => fun
  | [d1, d2] => { results := [.lit (.bool true)], args := [d1, d2] }
  | _ => none }
def relcapConsistentRow : OpenClaim := { program := "ytggjcdnailppoaa", sum := "4052cfc496eb08ce7fbc058282f994b4065d49d0fbbe95f7eb92898be14c90d7", func := "saleroom/saleroomlaw40.RelcapConsistent", spec := "relcapConsistent", unfollowed := true, recurses := true, apart := false }
def RelcapConsistentSaid : Prop := relcapConsistentRow.holds Try.pinned (OpenSpec.ofChange relcapConsistentSpec)

/-- ITS FALSE NEIGHBOUR: 'it returns false'. Refute it at one input. -/
def relcapConsistentWrong : ChangeSpec := { name := "relcapConsistent", fn := fun _ => fun
  | [d1, d2] => { results := [.lit (.bool false)], args := [d1, d2] }
  | _ => none }
def RelcapConsistentWrongFalsely : Prop := relcapConsistentRow.holds Try.pinned (OpenSpec.ofChange relcapConsistentWrong)

/- THE SECOND FORM. 'bulk': how many values and letters a reading holds, each counted each time it is reached (what is shared counts as often as it is met; a slice's spare places count too). A statement '..UptoSaid' is the law's where the arguments, and the package variables that the reading takes, are together of bulk at most 1048576: NARROWER than '..Said'. Prove '..Said' where nothing that the law and all that it calls make is longer than what came in: it says more and counts as full. Else prove '..UptoSaid'. A law counts once. -/
mutual
def uptoBulk {H : Type} : DataW H → Nat
  | .lit (.string bytes) => bytes.length + 1
  | .lit _ => 1
  | .nil => 1
  | .ptr d => uptoBulk d + 1
  | .slice elems spare => uptoBulkAll elems + uptoBulkAll spare + 1
  | .agg parts => uptoBulkAll parts + 1
  | .iface _ d => uptoBulk d + 1
  | .map entries => uptoBulkEntries entries + 1
  | .held _ => 1
def uptoBulkAll {H : Type} : List (DataW H) → Nat
  | [] => 0
  | d :: r => uptoBulk d + uptoBulkAll r
def uptoBulkEntries {H : Type} : List (Lit × DataW H) → Nat
  | [] => 0
  | x :: r => uptoBulkEntry x + uptoBulkEntries r
def uptoBulkEntry {H : Type} : Lit × DataW H → Nat
  | (.string bytes, d) => bytes.length + uptoBulk d + 1
  | (_, d) => uptoBulk d + 1
 end
def uptoSmall : (H : Type) → List (DataW H) → Bool := fun _ ds => decide (uptoBulkAll ds ≤ 1048576)
def OpenSpec.upto (s : _root_.Go.ChangeSpec) : _root_.Go.OpenSpec := { _root_.Go.OpenSpec.ofChange s with cond := some uptoSmall }

/-- 'saleroomlaw40.RelcapClockbids', WHERE WHAT IT READS IS OF BULK AT MOST 1048576: true; the input reads as it did. -/
def relcapClockbidsUptoRow : OpenClaim := { program := "ytggjcdnailppoaa", sum := "4052cfc496eb08ce7fbc058282f994b4065d49d0fbbe95f7eb92898be14c90d7", func := "saleroom/saleroomlaw40.RelcapClockbids", spec := "relcapClockbids", unfollowed := true, recurses := true, apart := false, narrowed := true }
def RelcapClockbidsUptoSaid : Prop := relcapClockbidsUptoRow.holds Try.pinned (OpenSpec.upto relcapClockbidsSpec)

/-- 'saleroomlaw40.RelcapMost', WHERE WHAT IT READS IS OF BULK AT MOST 1048576: true; the input reads as it did. -/
def relcapMostUptoRow : OpenClaim := { program := "ytggjcdnailppoaa", sum := "4052cfc496eb08ce7fbc058282f994b4065d49d0fbbe95f7eb92898be14c90d7", func := "saleroom/saleroomlaw40.RelcapMost", spec := "relcapMost", unfollowed := true, recurses := true, apart := false, narrowed := true }
def RelcapMostUptoSaid : Prop := relcapMostUptoRow.holds Try.pinned (OpenSpec.upto relcapMostSpec)

/-- 'saleroomlaw40.RelcapRaises', WHERE WHAT IT READS IS OF BULK AT MOST 1048576: true; the input reads as it did. -/
def relcapRaisesUptoRow : OpenClaim := { program := "ytggjcdnailppoaa", sum := "4052cfc496eb08ce7fbc058282f994b4065d49d0fbbe95f7eb92898be14c90d7", func := "saleroom/saleroomlaw40.RelcapRaises", spec := "relcapRaises", unfollowed := true, recurses := true, apart := false, narrowed := true }
def RelcapRaisesUptoSaid : Prop := relcapRaisesUptoRow.holds Try.pinned (OpenSpec.upto relcapRaisesSpec)

/-- 'saleroomlaw40.RelcapChecks', WHERE WHAT IT READS IS OF BULK AT MOST 1048576: true; the input reads as it did. -/
def relcapChecksUptoRow : OpenClaim := { program := "ytggjcdnailppoaa", sum := "4052cfc496eb08ce7fbc058282f994b4065d49d0fbbe95f7eb92898be14c90d7", func := "saleroom/saleroomlaw40.RelcapChecks", spec := "relcapChecks", unfollowed := true, recurses := true, apart := false, narrowed := true }
def RelcapChecksUptoSaid : Prop := relcapChecksUptoRow.holds Try.pinned (OpenSpec.upto relcapChecksSpec)

/-- 'saleroomlaw40.RelcapTrims', WHERE WHAT IT READS IS OF BULK AT MOST 1048576: true; the input reads as it did. -/
def relcapTrimsUptoRow : OpenClaim := { program := "ytggjcdnailppoaa", sum := "4052cfc496eb08ce7fbc058282f994b4065d49d0fbbe95f7eb92898be14c90d7", func := "saleroom/saleroomlaw40.RelcapTrims", spec := "relcapTrims", unfollowed := true, recurses := true, apart := false, narrowed := true }
def RelcapTrimsUptoSaid : Prop := relcapTrimsUptoRow.holds Try.pinned (OpenSpec.upto relcapTrimsSpec)

/-- 'saleroomlaw40.RelcapConsistent', WHERE WHAT IT READS IS OF BULK AT MOST 1048576: true; the input reads as it did. -/
def relcapConsistentUptoRow : OpenClaim := { program := "ytggjcdnailppoaa", sum := "4052cfc496eb08ce7fbc058282f994b4065d49d0fbbe95f7eb92898be14c90d7", func := "saleroom/saleroomlaw40.RelcapConsistent", spec := "relcapConsistent", unfollowed := true, recurses := true, apart := false, narrowed := true }
def RelcapConsistentUptoSaid : Prop := relcapConsistentUptoRow.holds Try.pinned (OpenSpec.upto relcapConsistentSpec)

end Rows
end Go.Proofs.Ytggjcdnailppoaa
