/-
  No cell of these rows narrows 'for every input' (looked for: loops, veiled, ifaces, maps, wideKeys, modest, calm, conditions, laid).
  DERIVED. THE GIVEN ROWS OF THIS SEAT. 5 by the template 'for every input the law returns true; each argument reads behind the call as it read before'; 0 by the template 'total and deterministic' (their statements: YtflcopaopimlpaaTotals.lean).
  GIVEN WITH THE SEED: the statements are not yours to turn. If you find one false, say at which input.
  Laid BY PROGRAM, IN A SANDBOX (cutbox-rows.mjs): the forced cells as the released guide's own fill.sh prints them over the translation 039b57411d684cc6… (all of the seat's roots in one cut). By AI agents, Wed Nov 11 2026. No macro, syntax, notation, axiom, sorry.
-/
import Derived.Test.YtflcopaopimlpaaChecked
import GoSem.Claim
import GoSem.ClaimJoined
import GoSem.ClaimMapViews
import Derived.JoinedTies
import Derived.KernelRfl
namespace Go.Proofs.Ytflcopaopimlpaa
/- THE CELL 'sum', in the pinned program and in every row, IS THE sha256 OF THE DUMP (.gsa) THAT YtflcopaopimlpaaProg.lean LOADS. Nothing in Lean hashes anything: it is a label: what it is worth is what the hold of that sum in a sandbox is worth. -/
noncomputable def Try.pinned : Pinned := { name := "ytflcopaopimlpaa", sum := "039b57411d684cc6e87190ac0041e991716d68afac6c46e9b06c17c8e773854f", checked := Try.checked }
namespace Rows
def none {H : Type} : Left H := { results := [], args := [] }

/-- 'saleroomlaw16.BidbookRaises': WHATEVER THE INPUT: true; the input reads as it did. -/
def bidbookRaisesSpec : ChangeSpec := { name := "bidbookRaises", fn := fun _ => fun
  | [d1, d2] => { results := [.lit (.bool true)], args := [d1, d2] }
  | _ => none }
def bidbookRaisesRow : OpenClaim := { program := "ytflcopaopimlpaa", sum := "039b57411d684cc6e87190ac0041e991716d68afac6c46e9b06c17c8e773854f", func := "saleroom/saleroomlaw16.BidbookRaises", spec := "bidbookRaises", unfollowed := true, recurses := true, plainKeys := false, apart := false }
def BidbookRaisesSaid : Prop := bidbookRaisesRow.holds Try.pinned (OpenSpec.ofChange bidbookRaisesSpec)

/-- ITS FALSE NEIGHBOUR: 'it returns false'. Refute it at one input. -/
def bidbookRaisesWrong : ChangeSpec := { name := "bidbookRaises", fn := fun _ => fun
  | [d1, d2] => { results := [.lit (.bool false)], args := [d1, d2] }
  | _ => none }
def BidbookRaisesWrongFalsely : Prop := bidbookRaisesRow.holds Try.pinned (OpenSpec.ofChange bidbookRaisesWrong)

/-- 'saleroomlaw16.BidbookCopies': WHATEVER THE INPUT: true; the input reads as it did. -/
def bidbookCopiesSpec : ChangeSpec := { name := "bidbookCopies", fn := fun _ => fun
  | [d1, d2, d3] => { results := [.lit (.bool true)], args := [d1, d2, d3] }
  | _ => none }
def bidbookCopiesRow : OpenClaim := { program := "ytflcopaopimlpaa", sum := "039b57411d684cc6e87190ac0041e991716d68afac6c46e9b06c17c8e773854f", func := "saleroom/saleroomlaw16.BidbookCopies", spec := "bidbookCopies", unfollowed := true, recurses := true, plainKeys := false, apart := false }
def BidbookCopiesSaid : Prop := bidbookCopiesRow.holds Try.pinned (OpenSpec.ofChange bidbookCopiesSpec)

/-- ITS FALSE NEIGHBOUR: 'it returns false'. Refute it at one input. -/
def bidbookCopiesWrong : ChangeSpec := { name := "bidbookCopies", fn := fun _ => fun
  | [d1, d2, d3] => { results := [.lit (.bool false)], args := [d1, d2, d3] }
  | _ => none }
def BidbookCopiesWrongFalsely : Prop := bidbookCopiesRow.holds Try.pinned (OpenSpec.ofChange bidbookCopiesWrong)

/-- 'saleroomlaw16.BidbookOrder': WHATEVER THE INPUT: true; the input reads as it did. -/
def bidbookOrderSpec : ChangeSpec := { name := "bidbookOrder", fn := fun _ => fun
  | [d1, d2] => { results := [.lit (.bool true)], args := [d1, d2] }
  | _ => none }
def bidbookOrderRow : OpenClaim := { program := "ytflcopaopimlpaa", sum := "039b57411d684cc6e87190ac0041e991716d68afac6c46e9b06c17c8e773854f", func := "saleroom/saleroomlaw16.BidbookOrder", spec := "bidbookOrder", unfollowed := true, recurses := true, plainKeys := false, apart := false }
def BidbookOrderSaid : Prop := bidbookOrderRow.holds Try.pinned (OpenSpec.ofChange bidbookOrderSpec)

/-- ITS FALSE NEIGHBOUR: 'it returns false'. Refute it at one input. -/
def bidbookOrderWrong : ChangeSpec := { name := "bidbookOrder", fn := fun _ => fun
  | [d1, d2] => { results := [.lit (.bool false)], args := [d1, d2] }
  | _ => none }
def BidbookOrderWrongFalsely : Prop := bidbookOrderRow.holds Try.pinned (OpenSpec.ofChange bidbookOrderWrong)

/-- 'saleroomlaw16.BidbookNil': WHATEVER THE INPUT: true; the input reads as it did. -/
def bidbookNilSpec : ChangeSpec := { name := "bidbookNil", fn := fun _ => fun
  | [d1, d2, d3] => { results := [.lit (.bool true)], args := [d1, d2, d3] }
  | _ => none }
def bidbookNilRow : OpenClaim := { program := "ytflcopaopimlpaa", sum := "039b57411d684cc6e87190ac0041e991716d68afac6c46e9b06c17c8e773854f", func := "saleroom/saleroomlaw16.BidbookNil", spec := "bidbookNil", unfollowed := true, recurses := true, plainKeys := false, apart := false }
def BidbookNilSaid : Prop := bidbookNilRow.holds Try.pinned (OpenSpec.ofChange bidbookNilSpec)

/-- ITS FALSE NEIGHBOUR: 'it returns false'. Refute it at one input. -/
def bidbookNilWrong : ChangeSpec := { name := "bidbookNil", fn := fun _ => fun
  | [d1, d2, d3] => { results := [.lit (.bool false)], args := [d1, d2, d3] }
  | _ => none }
def BidbookNilWrongFalsely : Prop := bidbookNilRow.holds Try.pinned (OpenSpec.ofChange bidbookNilWrong)

/-- 'saleroomlaw16.BidbookBatches': WHATEVER THE INPUT: true; the input reads as it did. -/
def bidbookBatchesSpec : ChangeSpec := { name := "bidbookBatches", fn := fun _ => fun
  | [d1, d2, d3, d4] => { results := [.lit (.bool true)], args := [d1, d2, d3, d4] }
  | _ => none }
def bidbookBatchesRow : OpenClaim := { program := "ytflcopaopimlpaa", sum := "039b57411d684cc6e87190ac0041e991716d68afac6c46e9b06c17c8e773854f", func := "saleroom/saleroomlaw16.BidbookBatches", spec := "bidbookBatches", unfollowed := true, recurses := true, plainKeys := false, apart := false }
def BidbookBatchesSaid : Prop := bidbookBatchesRow.holds Try.pinned (OpenSpec.ofChange bidbookBatchesSpec)

/-- ITS FALSE NEIGHBOUR: 'it returns false'. Refute it at one input. -/
def bidbookBatchesWrong : ChangeSpec := { name := "bidbookBatches", fn := fun _ => fun
  | [d1, d2, d3, d4] => { results := [.lit (.bool false)], args := [d1, d2, d3, d4] }
  | _ => none }
def BidbookBatchesWrongFalsely : Prop := bidbookBatchesRow.holds Try.pinned (OpenSpec.ofChange bidbookBatchesWrong)

/- THE SECOND FORM. 'bulk': how many values and letters a reading holds, each counted each time it is reached (what is shared counts as often as it is met; a slice's spare places count too). A statement '..UptoSaid' is the law's where the arguments, and the package variables that the reading takes, are together of bulk at most 1048576: NARROWER than '..Said'. Prove '..Said' where nothing that the law and all that it calls make is longer than what came in: it says more and counts as full. Else prove '..UptoSaid'. A law counts once. -/
mutual
def uptoBulk {H : Type} : DataW H → Nat
  | .lit (.string bytes) => bytes.length + 1
  | .lit _ => 1
  | .nil => 1
  | .ptr d => uptoBulk d + 1
  | .slice elems spare => uptoBulkAll elems + uptoBulkAll spare + 1
  | .agg parts => uptoBulkAll parts + 1
  | .iface _ d => uptoBulk d + 1
  | .map entries => uptoBulkEntries entries + 1
  | .held _ => 1
def uptoBulkAll {H : Type} : List (DataW H) → Nat
  | [] => 0
  | d :: r => uptoBulk d + uptoBulkAll r
def uptoBulkEntries {H : Type} : List (Lit × DataW H) → Nat
  | [] => 0
  | x :: r => uptoBulkEntry x + uptoBulkEntries r
def uptoBulkEntry {H : Type} : Lit × DataW H → Nat
  | (.string bytes, d) => bytes.length + uptoBulk d + 1
  | (_, d) => uptoBulk d + 1
 end
def uptoSmall : (H : Type) → List (DataW H) → Bool := fun _ ds => decide (uptoBulkAll ds ≤ 1048576)
def OpenSpec.upto (s : _root_.Go.ChangeSpec) : _root_.Go.OpenSpec := { _root_.Go.OpenSpec.ofChange s with cond := some uptoSmall }

/-- 'saleroomlaw16.BidbookRaises', WHERE WHAT IT READS IS OF BULK AT MOST 1048576: true; the input reads as it did. -/
def bidbookRaisesUptoRow : OpenClaim := { program := "ytflcopaopimlpaa", sum := "039b57411d684cc6e87190ac0041e991716d68afac6c46e9b06c17c8e773854f", func := "saleroom/saleroomlaw16.BidbookRaises", spec := "bidbookRaises", unfollowed := true, recurses := true, plainKeys := false, apart := false, narrowed := true }
def BidbookRaisesUptoSaid : Prop := bidbookRaisesUptoRow.holds Try.pinned (OpenSpec.upto bidbookRaisesSpec)

/-- 'saleroomlaw16.BidbookCopies', WHERE WHAT IT READS IS OF BULK AT MOST 1048576: true; the input reads as it did. -/
def bidbookCopiesUptoRow : OpenClaim := { program := "ytflcopaopimlpaa", sum := "039b57411d684cc6e87190ac0041e991716d68afac6c46e9b06c17c8e773854f", func := "saleroom/saleroomlaw16.BidbookCopies", spec := "bidbookCopies", unfollowed := true, recurses := true, plainKeys := false, apart := false, narrowed := true }
def BidbookCopiesUptoSaid : Prop := bidbookCopiesUptoRow.holds Try.pinned (OpenSpec.upto bidbookCopiesSpec)

/-- 'saleroomlaw16.BidbookOrder', WHERE WHAT IT READS IS OF BULK AT MOST 1048576: true; the input reads as it did. -/
def bidbookOrderUptoRow : OpenClaim := { program := "ytflcopaopimlpaa", sum := "039b57411d684cc6e87190ac0041e991716d68afac6c46e9b06c17c8e773854f", func := "saleroom/saleroomlaw16.BidbookOrder", spec := "bidbookOrder", unfollowed := true, recurses := true, plainKeys := false, apart := false, narrowed := true }
def BidbookOrderUptoSaid : Prop := bidbookOrderUptoRow.holds Try.pinned (OpenSpec.upto bidbookOrderSpec)

/-- 'saleroomlaw16.BidbookNil', WHERE WHAT IT READS IS OF BULK AT MOST 1048576: true; the input reads as it did. -/
def bidbookNilUptoRow : OpenClaim := { program := "ytflcopaopimlpaa", sum := "039b57411d684cc6e87190ac0041e991716d68afac6c46e9b06c17c8e773854f", func := "saleroom/saleroomlaw16.BidbookNil", spec := "bidbookNil", unfollowed := true, recurses := true, plainKeys := false, apart := false, narrowed := true }
def BidbookNilUptoSaid : Prop := bidbookNilUptoRow.holds Try.pinned (OpenSpec.upto bidbookNilSpec)

/-- 'saleroomlaw16.BidbookBatches', WHERE WHAT IT READS IS OF BULK AT MOST 1048576: true; the input reads as it did. -/
def bidbookBatchesUptoRow : OpenClaim := { program := "ytflcopaopimlpaa", sum := "039b57411d684cc6e87190ac0041e991716d68afac6c46e9b06c17c8e773854f", func := "saleroom/saleroomlaw16.BidbookBatches", spec := "bidbookBatches", unfollowed := true, recurses := true, plainKeys := false, apart := false, narrowed := true }
def BidbookBatchesUptoSaid : Prop := bidbookBatchesUptoRow.holds Try.pinned (OpenSpec.upto bidbookBatchesSpec)

end Rows
end Go.Proofs.Ytflcopaopimlpaa
