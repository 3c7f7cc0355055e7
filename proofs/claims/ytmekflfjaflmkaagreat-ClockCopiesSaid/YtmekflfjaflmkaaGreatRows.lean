/-
  No cell of these rows narrows 'for every input' (looked for: loops, veiled, ifaces, maps, wideKeys, modest, calm, conditions, laid).
  DERIVED. THE GIVEN ROWS OF THIS SEAT. 4 by the template 'for every input the law returns true; each argument reads behind the call as it read before'; 0 by the template 'total and deterministic' (their statements: YtmekflfjaflmkaaGreatTotals.lean).
  GIVEN WITH THE SEED: the statements are not yours to turn. If you find one false, say at which input.
  Laid BY PROGRAM, IN A SANDBOX (cutbox-rows.mjs): the forced cells as the released guide's own fill.sh prints them over the translation b5d7de1bacd3afd8… (all of the seat's roots in one cut). By AI agents, Wed Nov 11 2026. No macro, syntax, notation, axiom, sorry.
-/
import Derived.Test.YtmekflfjaflmkaaGreatChecked
import GoSem.Claim
import GoSem.ClaimJoined
import GoSem.ClaimMapViews
import Derived.JoinedTies
import Derived.KernelRfl
namespace Go.Proofs.YtmekflfjaflmkaaGreat
/- THE CELL 'sum', in the pinned program and in every row, IS THE sha256 OF THE DUMP (.gsa) THAT YtmekflfjaflmkaaGreatProg.lean LOADS. Nothing in Lean hashes anything: it is a label: what it is worth is what the hold of that sum in a sandbox is worth. -/
noncomputable def Tryz.pinned : Pinned := { name := "ytmekflfjaflmkaagreat", sum := "b5d7de1bacd3afd8babc0186be2932a97518e69177c8b6e88f34456d98469b35", checked := Tryz.checked }
namespace Rows
def none {H : Type} : Left H := { results := [], args := [] }

/-- 'saleroomlaw39.ClockNews': WHATEVER THE INPUT: true; the input reads as it did. -/
def clockNewsSpec : ChangeSpec := { name := "clockNews", fn := fun _ => fun
  | [d1, d2] => { results := [.lit (.bool true)], args := [d1, d2] }
  | _ => none }
def clockNewsRow : OpenClaim := { program := "ytmekflfjaflmkaagreat", sum := "b5d7de1bacd3afd8babc0186be2932a97518e69177c8b6e88f34456d98469b35", func := "saleroom/saleroomlaw39.ClockNews", spec := "clockNews", unfollowed := true, recurses := true, apart := false }
def ClockNewsSaid : Prop := clockNewsRow.holds Tryz.pinned (OpenSpec.ofChange clockNewsSpec)

/-- ITS FALSE NEIGHBOUR: 'it returns false'. Refute it at one input. -/
def clockNewsWrong : ChangeSpec := { name := "clockNews", fn := fun _ => fun
  | [d1, d2] => { results := [.lit (.bool false)], args := [d1, d2] }
  | _ => none }
def ClockNewsWrongFalsely : Prop := clockNewsRow.holds Tryz.pinned (OpenSpec.ofChange clockNewsWrong)

/-- 'saleroomlaw39.ClockRuns': WHATEVER THE INPUT: true; the input reads as it did. -/
def clockRunsSpec : ChangeSpec := { name := "clockRuns", fn := fun _ => fun
  | [d1, d2, d3] => { results := [.lit (.bool true)], args := [d1, d2, d3] }
  | _ => none }
def clockRunsRow : OpenClaim := { program := "ytmekflfjaflmkaagreat", sum := "b5d7de1bacd3afd8babc0186be2932a97518e69177c8b6e88f34456d98469b35", func := "saleroom/saleroomlaw39.ClockRuns", spec := "clockRuns", unfollowed := true, recurses := true, apart := false }
def ClockRunsSaid : Prop := clockRunsRow.holds Tryz.pinned (OpenSpec.ofChange clockRunsSpec)

/-- ITS FALSE NEIGHBOUR: 'it returns false'. Refute it at one input. -/
def clockRunsWrong : ChangeSpec := { name := "clockRuns", fn := fun _ => fun
  | [d1, d2, d3] => { results := [.lit (.bool false)], args := [d1, d2, d3] }
  | _ => none }
def ClockRunsWrongFalsely : Prop := clockRunsRow.holds Tryz.pinned (OpenSpec.ofChange clockRunsWrong)

/-- 'saleroomlaw39.ClockStarts': WHATEVER THE INPUT: true; the input reads as it did. -/
def clockStartsSpec : ChangeSpec := { name := "clockStarts", fn := fun _ => fun
  | [d1, d2, d3] => { results := [.lit (.bool true)], args := [d1, d2, d3] }
  | _ => none }
def clockStartsRow : OpenClaim := { program := "ytmekflfjaflmkaagreat", sum := "b5d7de1bacd3afd8babc0186be2932a97518e69177c8b6e88f34456d98469b35", func := "saleroom/saleroomlaw39.ClockStarts", spec := "clockStarts", unfollowed := true, recurses := true, apart := false }
def ClockStartsSaid : Prop := clockStartsRow.holds Tryz.pinned (OpenSpec.ofChange clockStartsSpec)

/-- ITS FALSE NEIGHBOUR: 'it returns false'. Refute it at one input. -/
def clockStartsWrong : ChangeSpec := { name := "clockStarts", fn := fun _ => fun
  | [d1, d2, d3] => { results := [.lit (.bool false)], args := [d1, d2, d3] }
  | _ => none }
def ClockStartsWrongFalsely : Prop := clockStartsRow.holds Tryz.pinned (OpenSpec.ofChange clockStartsWrong)

/-- 'saleroomlaw39.ClockCopies': WHATEVER THE INPUT: true; the input reads as it did. -/
def clockCopiesSpec : ChangeSpec := { name := "clockCopies", fn := fun _ => fun
  | [d1, d2, d3, d4] => { results := [.lit (.bool true)], args := [d1, d2, d3, d4] }
  | _ => none }
def clockCopiesRow : OpenClaim := { program := "ytmekflfjaflmkaagreat", sum := "b5d7de1bacd3afd8babc0186be2932a97518e69177c8b6e88f34456d98469b35", func := "saleroom/saleroomlaw39.ClockCopies", spec := "clockCopies", unfollowed := true, recurses := true, apart := false }
def ClockCopiesSaid : Prop := clockCopiesRow.holds Tryz.pinned (OpenSpec.ofChange clockCopiesSpec)

/-- ITS FALSE NEIGHBOUR: 'it returns false'. Refute it at one input. -/
def clockCopiesWrong : ChangeSpec := { name := "clockCopies", fn := fun _ => fun
  | [d1, d2, d3, d4] => { results := [.lit (.bool false)], args := [d1, d2, d3, d4] }
  | _ => none }
def ClockCopiesWrongFalsely : Prop := clockCopiesRow.holds Tryz.pinned (OpenSpec.ofChange clockCopiesWrong)

/- THE SECOND FORM. 'bulk': how many values and letters a reading holds, each counted each time it is reached (what is shared counts as often as it is met; a slice's spare places count too). A statement '..UptoSaid' is the law's where the arguments, and the package variables that the reading takes, are together of bulk at most 1048576: NARROWER than '..Said'. Prove '..Said' where nothing that the law and all that it calls make is longer than what came in: it says more and counts as full. Else prove '..UptoSaid'. A law counts once. -/
mutual
def uptoBulk {H : Type} : DataW H → Nat
  | .lit (.string bytes) => bytes.length + 1
  | .lit _ => 1
  | .nil => 1
  | .ptr d => uptoBulk d + 1
  | .slice elems spare => uptoBulkAll elems + uptoBulkAll spare + 1
  | .agg parts => uptoBulkAll parts + 1
  | .iface _ d => uptoBulk d + 1
  | .map entries => uptoBulkEntries entries + 1
  | .held _ => 1
def uptoBulkAll {H : Type} : List (DataW H) → Nat
  | [] => 0
  | d :: r => uptoBulk d + uptoBulkAll r
def uptoBulkEntries {H : Type} : List (Lit × DataW H) → Nat
  | [] => 0
  | x :: r => uptoBulkEntry x + uptoBulkEntries r
def uptoBulkEntry {H : Type} : Lit × DataW H → Nat
  | (.string bytes, d) => bytes.length + uptoBulk d + 1
  | (_, d) => uptoBulk d + 1
 end
def uptoSmall : (H : Type) → List (DataW H) → Bool := fun _ ds => decide (uptoBulkAll ds ≤ 1048576)
def OpenSpec.upto (s : _root_.Go.ChangeSpec) : _root_.Go.OpenSpec := { _root_.Go.OpenSpec.ofChange s with cond := some uptoSmall }

/-- 'saleroomlaw39.ClockNews', WHERE WHAT IT READS IS OF BULK AT MOST 1048576: true; the input reads as it did. -/
def clockNewsUptoRow : OpenClaim := { program := "ytmekflfjaflmkaagreat", sum := "b5d7de1bacd3afd8babc0186be2932a97518e69177c8b6e88f34456d98469b35", func := "saleroom/saleroomlaw39.ClockNews", spec := "clockNews", unfollowed := true, recurses := true, apart := false, narrowed := true }
def ClockNewsUptoSaid : Prop := clockNewsUptoRow.holds Tryz.pinned (OpenSpec.upto clockNewsSpec)

/-- 'saleroomlaw39.ClockRuns', WHERE WHAT IT READS IS OF BULK AT MOST 1048576: true; the input reads as it did. -/
def clockRunsUptoRow : OpenClaim := { program := "ytmekflfjaflmkaagreat", sum := "b5d7de1bacd3afd8babc0186be2932a97518e69177c8b6e88f34456d98469b35", func := "saleroom/saleroomlaw39.ClockRuns", spec := "clockRuns", unfollowed := true, recurses := true, apart := false, narrowed := true }
def ClockRunsUptoSaid : Prop := clockRunsUptoRow.holds Tryz.pinned (OpenSpec.upto clockRunsSpec)

/-- 'saleroomlaw39.ClockStarts', WHERE WHAT IT READS IS OF BULK AT MOST 1048576: true; the input reads as it did. -/
def clockStartsUptoRow : OpenClaim := { program := "ytmekflfjaflmkaagreat", sum := "b5d7de1bacd3afd8babc0186be2932a97518e69177c8b6e88f34456d98469b35", func := "saleroom/saleroomlaw39.ClockStarts", spec := "clockStarts", unfollowed := true, recurses := true, apart := false, narrowed := true }
def ClockStartsUptoSaid : Prop := clockStartsUptoRow.holds Tryz.pinned (OpenSpec.upto clockStartsSpec)

/-- 'saleroomlaw39.ClockCopies', WHERE WHAT IT READS IS OF BULK AT MOST 1048576: true; the input reads as it did. -/
def clockCopiesUptoRow : OpenClaim := { program := "ytmekflfjaflmkaagreat", sum := "b5d7de1bacd3afd8babc0186be2932a97518e69177c8b6e88f34456d98469b35", func := "saleroom/saleroomlaw39.ClockCopies", spec := "clockCopies", unfollowed := true, recurses := true, apart := false, narrowed := true }
def ClockCopiesUptoSaid : Prop := clockCopiesUptoRow.holds Tryz.pinned (OpenSpec.upto clockCopiesSpec)

end Rows
end Go.Proofs.YtmekflfjaflmkaaGreat
