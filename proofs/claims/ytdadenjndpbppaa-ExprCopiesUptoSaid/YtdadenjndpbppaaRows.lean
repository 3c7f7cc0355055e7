/-
  NARROWER THAN 'FOR EVERY INPUT', by the rows' own cells (each row's printed sentence says how): ExprChecks: loops · ExprSizes: loops · ExprEqual: loops · ExprAtoms: loops · ExprCopies: loops · ExprMaps: loops · ExprParts: loops.
  DERIVED. THE GIVEN ROWS OF THIS SEAT. 7 by the template 'for every input the law returns true; each argument reads behind the call as it read before'; 0 by the template 'total and deterministic' (their statements: YtdadenjndpbppaaTotals.lean).
  GIVEN WITH THE SEED: the statements are not yours to turn. If you find one false, say at which input.
  Laid BY PROGRAM, IN A SANDBOX (cutbox-rows.mjs): the forced cells as the released guide's own fill.sh prints them over the translation e9eb7b11e767277a… (all of the seat's roots in one cut). By AI agents, Wed Nov 11 2026. No macro, syntax, notation, axiom, sorry.
-/
import Derived.Test.YtdadenjndpbppaaChecked
import GoSem.Claim
import GoSem.ClaimJoined
import GoSem.ClaimMapViews
import Derived.JoinedTies
import Derived.KernelRfl
namespace Go.Proofs.Ytdadenjndpbppaa
/- THE CELL 'sum', in the pinned program and in every row, IS THE sha256 OF THE DUMP (.gsa) THAT YtdadenjndpbppaaProg.lean LOADS. Nothing in Lean hashes anything: it is a label: what it is worth is what the hold of that sum in a sandbox is worth. -/
noncomputable def Try.pinned : Pinned := { name := "ytdadenjndpbppaa", sum := "e9eb7b11e767277a5f0dec2df5938b0110edb07c5c73d8b378867837033c86a6", checked := Try.checked }
namespace Rows
def none {H : Type} : Left H := { results := [], args := [] }

/-- 'saleroomlaw11.ExprChecks': WHATEVER THE INPUT: true; the input reads as it did. -/
def exprChecksSpec : ChangeSpec := { name := "exprChecks", fn := fun _ => fun
  | [d] => { results := [.lit (.bool true)], args := [d] }
  | _ => none }
def exprChecksRow : OpenClaim := { program := "ytdadenjndpbppaa", sum := "e9eb7b11e767277a5f0dec2df5938b0110edb07c5c73d8b378867837033c86a6", func := "saleroom/saleroomlaw11.ExprChecks", spec := "exprChecks", unfollowed := true, recurses := true, loops := true, apart := false }
def ExprChecksSaid : Prop := exprChecksRow.holds Try.pinned (OpenSpec.ofChange exprChecksSpec)

/-- ITS FALSE NEIGHBOUR: 'it returns false'. Refute it at one input. -/
def exprChecksWrong : ChangeSpec := { name := "exprChecks", fn := fun _ => fun
  | [d] => { results := [.lit (.bool false)], args := [d] }
  | _ => none }
def ExprChecksWrongFalsely : Prop := exprChecksRow.holds Try.pinned (OpenSpec.ofChange exprChecksWrong)

/-- 'saleroomlaw11.ExprSizes': WHATEVER THE INPUT: true; the input reads as it did. -/
def exprSizesSpec : ChangeSpec := { name := "exprSizes", fn := fun _ => fun
  | [d] => { results := [.lit (.bool true)], args := [d] }
  | _ => none }
def exprSizesRow : OpenClaim := { program := "ytdadenjndpbppaa", sum := "e9eb7b11e767277a5f0dec2df5938b0110edb07c5c73d8b378867837033c86a6", func := "saleroom/saleroomlaw11.ExprSizes", spec := "exprSizes", unfollowed := true, recurses := true, loops := true, apart := false }
def ExprSizesSaid : Prop := exprSizesRow.holds Try.pinned (OpenSpec.ofChange exprSizesSpec)

/-- ITS FALSE NEIGHBOUR: 'it returns false'. Refute it at one input. -/
def exprSizesWrong : ChangeSpec := { name := "exprSizes", fn := fun _ => fun
  | [d] => { results := [.lit (.bool false)], args := [d] }
  | _ => none }
def ExprSizesWrongFalsely : Prop := exprSizesRow.holds Try.pinned (OpenSpec.ofChange exprSizesWrong)

/-- 'saleroomlaw11.ExprEqual': WHATEVER THE INPUT: true; the input reads as it did. -/
def exprEqualSpec : ChangeSpec := { name := "exprEqual", fn := fun _ => fun
  | [d1, d2] => { results := [.lit (.bool true)], args := [d1, d2] }
  | _ => none }
def exprEqualRow : OpenClaim := { program := "ytdadenjndpbppaa", sum := "e9eb7b11e767277a5f0dec2df5938b0110edb07c5c73d8b378867837033c86a6", func := "saleroom/saleroomlaw11.ExprEqual", spec := "exprEqual", unfollowed := true, recurses := true, loops := true, apart := false }
def ExprEqualSaid : Prop := exprEqualRow.holds Try.pinned (OpenSpec.ofChange exprEqualSpec)

/-- ITS FALSE NEIGHBOUR: 'it returns false'. Refute it at one input. -/
def exprEqualWrong : ChangeSpec := { name := "exprEqual", fn := fun _ => fun
  | [d1, d2] => { results := [.lit (.bool false)], args := [d1, d2] }
  | _ => none }
def ExprEqualWrongFalsely : Prop := exprEqualRow.holds Try.pinned (OpenSpec.ofChange exprEqualWrong)

/-- 'saleroomlaw11.ExprAtoms': WHATEVER THE INPUT: true; the input reads as it did. -/
def exprAtomsSpec : ChangeSpec := { name := "exprAtoms", fn := fun _ => fun
  | [d] => { results := [.lit (.bool true)], args := [d] }
  | _ => none }
def exprAtomsRow : OpenClaim := { program := "ytdadenjndpbppaa", sum := "e9eb7b11e767277a5f0dec2df5938b0110edb07c5c73d8b378867837033c86a6", func := "saleroom/saleroomlaw11.ExprAtoms", spec := "exprAtoms", unfollowed := true, recurses := true, loops := true, apart := false }
def ExprAtomsSaid : Prop := exprAtomsRow.holds Try.pinned (OpenSpec.ofChange exprAtomsSpec)

/-- ITS FALSE NEIGHBOUR: 'it returns false'. Refute it at one input. -/
def exprAtomsWrong : ChangeSpec := { name := "exprAtoms", fn := fun _ => fun
  | [d] => { results := [.lit (.bool false)], args := [d] }
  | _ => none }
def ExprAtomsWrongFalsely : Prop := exprAtomsRow.holds Try.pinned (OpenSpec.ofChange exprAtomsWrong)

/-- 'saleroomlaw11.ExprCopies': WHATEVER THE INPUT: true; the input reads as it did. -/
def exprCopiesSpec : ChangeSpec := { name := "exprCopies", fn := fun _ => fun
  | [d] => { results := [.lit (.bool true)], args := [d] }
  | _ => none }
def exprCopiesRow : OpenClaim := { program := "ytdadenjndpbppaa", sum := "e9eb7b11e767277a5f0dec2df5938b0110edb07c5c73d8b378867837033c86a6", func := "saleroom/saleroomlaw11.ExprCopies", spec := "exprCopies", unfollowed := true, recurses := true, loops := true, apart := false }
def ExprCopiesSaid : Prop := exprCopiesRow.holds Try.pinned (OpenSpec.ofChange exprCopiesSpec)

/-- ITS FALSE NEIGHBOUR: 'it returns false'. Refute it at one input. -/
def exprCopiesWrong : ChangeSpec := { name := "exprCopies", fn := fun _ => fun
  | [d] => { results := [.lit (.bool false)], args := [d] }
  | _ => none }
def ExprCopiesWrongFalsely : Prop := exprCopiesRow.holds Try.pinned (OpenSpec.ofChange exprCopiesWrong)

/-- 'saleroomlaw11.ExprMaps': WHATEVER THE INPUT: true; the input reads as it did. -/
def exprMapsSpec : ChangeSpec := { name := "exprMaps", fn := fun _ => fun
  | [d1, d2] => { results := [.lit (.bool true)], args := [d1, d2] }
  | _ => none }
def exprMapsRow : OpenClaim := { program := "ytdadenjndpbppaa", sum := "e9eb7b11e767277a5f0dec2df5938b0110edb07c5c73d8b378867837033c86a6", func := "saleroom/saleroomlaw11.ExprMaps", spec := "exprMaps", unfollowed := true, recurses := true, loops := true, apart := false }
def ExprMapsSaid : Prop := exprMapsRow.holds Try.pinned (OpenSpec.ofChange exprMapsSpec)

/-- ITS FALSE NEIGHBOUR: 'it returns false'. Refute it at one input. -/
def exprMapsWrong : ChangeSpec := { name := "exprMaps", fn := fun _ => fun
  | [d1, d2] => { results := [.lit (.bool false)], args := [d1, d2] }
  | _ => none }
def ExprMapsWrongFalsely : Prop := exprMapsRow.holds Try.pinned (OpenSpec.ofChange exprMapsWrong)

/-- 'saleroomlaw11.ExprParts': WHATEVER THE INPUT: true; the input reads as it did. -/
def exprPartsSpec : ChangeSpec := { name := "exprParts", fn := fun _ => fun
  | [d] => { results := [.lit (.bool true)], args := [d] }
  | _ => none }
def exprPartsRow : OpenClaim := { program := "ytdadenjndpbppaa", sum := "e9eb7b11e767277a5f0dec2df5938b0110edb07c5c73d8b378867837033c86a6", func := "saleroom/saleroomlaw11.ExprParts", spec := "exprParts", unfollowed := true, recurses := true, loops := true, apart := false }
def ExprPartsSaid : Prop := exprPartsRow.holds Try.pinned (OpenSpec.ofChange exprPartsSpec)

/-- ITS FALSE NEIGHBOUR: 'it returns false'. Refute it at one input. -/
def exprPartsWrong : ChangeSpec := { name := "exprParts", fn := fun _ => fun
  | [d] => { results := [.lit (.bool false)], args := [d] }
  | _ => none }
def ExprPartsWrongFalsely : Prop := exprPartsRow.holds Try.pinned (OpenSpec.ofChange exprPartsWrong)

/- THE SECOND FORM. 'bulk': how many values and letters a reading holds, each counted each time it is reached (what is shared counts as often as it is met; a slice's spare places count too). A statement '..UptoSaid' is the law's where the arguments, and the package variables that the reading takes, are together of bulk at most 1048576: NARROWER than '..Said'. Prove '..Said' where nothing that the law and all that it calls make is longer than what came in: it says more and counts as full. Else prove '..UptoSaid'. A law counts once. -/
mutual
def uptoBulk {H : Type} : DataW H → Nat
  | .lit (.string bytes) => bytes.length + 1
  | .lit _ => 1
  | .nil => 1
  | .ptr d => uptoBulk d + 1
  | .slice elems spare => uptoBulkAll elems + uptoBulkAll spare + 1
  | .agg parts => uptoBulkAll parts + 1
  | .iface _ d => uptoBulk d + 1
  | .map entries => uptoBulkEntries entries + 1
  | .held _ => 1
def uptoBulkAll {H : Type} : List (DataW H) → Nat
  | [] => 0
  | d :: r => uptoBulk d + uptoBulkAll r
def uptoBulkEntries {H : Type} : List (Lit × DataW H) → Nat
  | [] => 0
  | x :: r => uptoBulkEntry x + uptoBulkEntries r
def uptoBulkEntry {H : Type} : Lit × DataW H → Nat
  | (.string bytes, d) => bytes.length + uptoBulk d + 1
  | (_, d) => uptoBulk d + 1
 end
def uptoSmall : (H : Type) → List (DataW H) → Bool := fun _ ds => decide (uptoBulkAll ds ≤ 1048576)
def OpenSpec.upto (s : _root_.Go.ChangeSpec) : _root_.Go.OpenSpec := { _root_.Go.OpenSpec.ofChange s with cond := some uptoSmall }

/-- 'saleroomlaw11.ExprChecks', WHERE WHAT IT READS IS OF BULK AT MOST 1048576: true; the input reads as it did. -/
def exprChecksUptoRow : OpenClaim := { program := "ytdadenjndpbppaa", sum := "e9eb7b11e767277a5f0dec2df5938b0110edb07c5c73d8b378867837033c86a6", func := "saleroom/saleroomlaw11.ExprChecks", spec := "exprChecks", unfollowed := true, recurses := true, loops := true, apart := false, narrowed := true }
def ExprChecksUptoSaid : Prop := exprChecksUptoRow.holds Try.pinned (OpenSpec.upto exprChecksSpec)

/-- 'saleroomlaw11.ExprSizes', WHERE WHAT IT READS IS OF BULK AT MOST 1048576: true; the input reads as it did. -/
def exprSizesUptoRow : OpenClaim := { program := "ytdadenjndpbppaa", sum := "e9eb7b11e767277a5f0dec2df5938b0110edb07c5c73d8b378867837033c86a6", func := "saleroom/saleroomlaw11.ExprSizes", spec := "exprSizes", unfollowed := true, recurses := true, loops := true, apart := false, narrowed := true }
def ExprSizesUptoSaid : Prop := exprSizesUptoRow.holds Try.pinned (OpenSpec.upto exprSizesSpec)

/-- 'saleroomlaw11.ExprEqual', WHERE WHAT IT READS IS OF BULK AT MOST 1048576: true; the input reads as it did. -/
def exprEqualUptoRow : OpenClaim := { program := "ytdadenjndpbppaa", sum := "e9eb7b11e767277a5f0dec2df5938b0110edb07c5c73d8b378867837033c86a6", func := "saleroom/saleroomlaw11.ExprEqual", spec := "exprEqual", unfollowed := true, recurses := true, loops := true, apart := false, narrowed := true }
def ExprEqualUptoSaid : Prop := exprEqualUptoRow.holds Try.pinned (OpenSpec.upto exprEqualSpec)

/-- 'saleroomlaw11.ExprAtoms', WHERE WHAT IT READS IS OF BULK AT MOST 1048576: true; the input reads as it did. -/
def exprAtomsUptoRow : OpenClaim := { program := "ytdadenjndpbppaa", sum := "e9eb7b11e767277a5f0dec2df5938b0110edb07c5c73d8b378867837033c86a6", func := "saleroom/saleroomlaw11.ExprAtoms", spec := "exprAtoms", unfollowed := true, recurses := true, loops := true, apart := false, narrowed := true }
def ExprAtomsUptoSaid : Prop := exprAtomsUptoRow.holds Try.pinned (OpenSpec.upto exprAtomsSpec)

/-- 'saleroomlaw11.ExprCopies', WHERE WHAT IT READS IS OF BULK AT MOST 1048576: true; the input reads as it did. -/
def exprCopiesUptoRow : OpenClaim := { program := "ytdadenjndpbppaa", sum := "e9eb7b11e767277a5f0dec2df5938b0110edb07c5c73d8b378867837033c86a6", func := "saleroom/saleroomlaw11.ExprCopies", spec := "exprCopies", unfollowed := true, recurses := true, loops := true, apart := false, narrowed := true }
def ExprCopiesUptoSaid : Prop := exprCopiesUptoRow.holds Try.pinned (OpenSpec.upto exprCopiesSpec)

/-- 'saleroomlaw11.ExprMaps', WHERE WHAT IT READS IS OF BULK AT MOST 1048576: true; the input reads as it did. -/
def exprMapsUptoRow : OpenClaim := { program := "ytdadenjndpbppaa", sum := "e9eb7b11e767277a5f0dec2df5938b0110edb07c5c73d8b378867837033c86a6", func := "saleroom/saleroomlaw11.ExprMaps", spec := "exprMaps", unfollowed := true, recurses := true, loops := true, apart := false, narrowed := true }
def ExprMapsUptoSaid : Prop := exprMapsUptoRow.holds Try.pinned (OpenSpec.upto exprMapsSpec)

/-- 'saleroomlaw11.ExprParts', WHERE WHAT IT READS IS OF BULK AT MOST 1048576: true; the input reads as it did. -/
def exprPartsUptoRow : OpenClaim := { program := "ytdadenjndpbppaa", sum := "e9eb7b11e767277a5f0dec2df5938b0110edb07c5c73d8b378867837033c86a6", func := "saleroom/saleroomlaw11.ExprParts", spec := "exprParts", unfollowed := true, recurses := true, loops := true, apart := false, narrowed := true }
def ExprPartsUptoSaid : Prop := exprPartsUptoRow.holds Try.pinned (OpenSpec.upto exprPartsSpec)

end Rows
end Go.Proofs.Ytdadenjndpbppaa
