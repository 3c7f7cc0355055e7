/-
  No cell of these rows narrows 'for every input' (looked for: loops, veiled, ifaces, maps, wideKeys, modest, calm, conditions, laid).
  DERIVED. THE GIVEN ROWS OF THIS SEAT. 11 by the template 'for every input the law returns true; each argument reads behind the call as it read before'; 0 by the template 'total and deterministic' (their statements: YthjahianafohjaaTotals.lean).
  GIVEN WITH THE SEED: the statements are not yours to turn. If you find one false, say at which input.
  Laid BY PROGRAM, IN A SANDBOX (cutbox-rows.mjs): the forced cells as the released guide's own fill.sh prints them over the translation 93813ed31c9207c6… (all of the seat's roots in one cut). By AI agents, Wed Nov 11 2026. No macro, syntax, notation, axiom, sorry.
-/
import Derived.Test.YthjahianafohjaaChecked
import GoSem.Claim
import GoSem.ClaimJoined
import GoSem.ClaimMapViews
import Derived.JoinedTies
import Derived.KernelRfl
namespace Go.Proofs.Ythjahianafohjaa
/- THE CELL 'sum', in the pinned program and in every row, IS THE sha256 OF THE DUMP (.gsa) THAT YthjahianafohjaaProg.lean LOADS. Nothing in Lean hashes anything: it is a label: what it is worth is what the hold of that sum in a sandbox is worth. -/
noncomputable def Try.pinned : Pinned := { name := "ythjahianafohjaa", sum := "93813ed31c9207c634f9a6772cad9d214e077b8fa725735d7ba32686e638edc4", checked := Try.checked }
namespace Rows
def none {H : Type} : Left H := { results := [], args := [] }

/-- 'saleroomlaw36.RevealedExact': WHATEVER THE INPUT: true; the input reads as it did. -/
def revealedExactSpec : ChangeSpec := { name := "revealedExact", fn := fun _ => fun
  | [d] => { results := [.lit (.bool true)], args := [d] }
  | _ => none }
def revealedExactRow : OpenClaim := { program := "ythjahianafohjaa", sum := "93813ed31c9207c634f9a6772cad9d214e077b8fa725735d7ba32686e638edc4", func := "saleroom/saleroomlaw36.RevealedExact", spec := "revealedExact", apart := false }
def RevealedExactSaid : Prop := revealedExactRow.holds Try.pinned (OpenSpec.ofChange revealedExactSpec)

/-- ITS FALSE NEIGHBOUR: 'it returns false'. Refute it at one input. -/
def revealedExactWrong : ChangeSpec := { name := "revealedExact", fn := fun _ => fun
  | [d] => { results := [.lit (.bool false)], args := [d] }
  | _ => none }
def RevealedExactWrongFalsely : Prop := revealedExactRow.holds Try.pinned (OpenSpec.ofChange revealedExactWrong)

/-- 'saleroomlaw36.RevealedVerifies': WHATEVER THE INPUT: true; the input reads as it did. -/
def revealedVerifiesSpec : ChangeSpec := { name := "revealedVerifies", fn := fun _ => fun
  | [d1, d2] => { results := [.lit (.bool true)], args := [d1, d2] }
  | _ => none }
def revealedVerifiesRow : OpenClaim := { program := "ythjahianafohjaa", sum := "93813ed31c9207c634f9a6772cad9d214e077b8fa725735d7ba32686e638edc4", func := "saleroom/saleroomlaw36.RevealedVerifies", spec := "revealedVerifies", apart := false }
def RevealedVerifiesSaid : Prop := revealedVerifiesRow.holds Try.pinned (OpenSpec.ofChange revealedVerifiesSpec)

/-- ITS FALSE NEIGHBOUR: 'it returns false'. Refute it at one input. -/
def revealedVerifiesWrong : ChangeSpec := { name := "revealedVerifies", fn := fun _ => fun
  | [d1, d2] => { results := [.lit (.bool false)], args := [d1, d2] }
  | _ => none }
def RevealedVerifiesWrongFalsely : Prop := revealedVerifiesRow.holds Try.pinned (OpenSpec.ofChange revealedVerifiesWrong)

/-- 'saleroomlaw36.RevealedSound': WHATEVER THE INPUT: true; the input reads as it did. -/
def revealedSoundSpec : ChangeSpec := { name := "revealedSound", fn := fun _ => fun
  | [d1, d2, d3] => { results := [.lit (.bool true)], args := [d1, d2, d3] }
  | _ => none }
def revealedSoundRow : OpenClaim := { program := "ythjahianafohjaa", sum := "93813ed31c9207c634f9a6772cad9d214e077b8fa725735d7ba32686e638edc4", func := "saleroom/saleroomlaw36.RevealedSound", spec := "revealedSound", apart := false }
def RevealedSoundSaid : Prop := revealedSoundRow.holds Try.pinned (OpenSpec.ofChange revealedSoundSpec)

/-- ITS FALSE NEIGHBOUR: 'it returns false'. Refute it at one input. -/
def revealedSoundWrong : ChangeSpec := { name := "revealedSound", fn := fun _ => fun
  | [d1, d2, d3] => { results := [.lit (.bool false)], args := [d1, d2, d3] }
  | _ => none }
def RevealedSoundWrongFalsely : Prop := revealedSoundRow.holds Try.pinned (OpenSpec.ofChange revealedSoundWrong)

/-- 'saleroomlaw36.RevealedGains': WHATEVER THE INPUT: true; the input reads as it did. -/
def revealedGainsSpec : ChangeSpec := { name := "revealedGains", fn := fun _ => fun
  | [d1, d2] => { results := [.lit (.bool true)], args := [d1, d2] }
  | _ => none }
def revealedGainsRow : OpenClaim := { program := "ythjahianafohjaa", sum := "93813ed31c9207c634f9a6772cad9d214e077b8fa725735d7ba32686e638edc4", func := "saleroom/saleroomlaw36.RevealedGains", spec := "revealedGains", apart := false }
def RevealedGainsSaid : Prop := revealedGainsRow.holds Try.pinned (OpenSpec.ofChange revealedGainsSpec)

/-- ITS FALSE NEIGHBOUR: 'it returns false'. Refute it at one input. -/
def revealedGainsWrong : ChangeSpec := { name := "revealedGains", fn := fun _ => fun
  | [d1, d2] => { results := [.lit (.bool false)], args := [d1, d2] }
  | _ => none }
def RevealedGainsWrongFalsely : Prop := revealedGainsRow.holds Try.pinned (OpenSpec.ofChange revealedGainsWrong)

/-- 'saleroomlaw36.RevealedParts': WHATEVER THE INPUT: true; the input reads as it did. -/
def revealedPartsSpec : ChangeSpec := { name := "revealedParts", fn := fun _ => fun
  | [d1, d2] => { results := [.lit (.bool true)], args := [d1, d2] }
  | _ => none }
def revealedPartsRow : OpenClaim := { program := "ythjahianafohjaa", sum := "93813ed31c9207c634f9a6772cad9d214e077b8fa725735d7ba32686e638edc4", func := "saleroom/saleroomlaw36.RevealedParts", spec := "revealedParts", apart := false }
def RevealedPartsSaid : Prop := revealedPartsRow.holds Try.pinned (OpenSpec.ofChange revealedPartsSpec)

/-- ITS FALSE NEIGHBOUR: 'it returns false'. Refute it at one input. -/
def revealedPartsWrong : ChangeSpec := { name := "revealedParts", fn := fun _ => fun
  | [d1, d2] => { results := [.lit (.bool false)], args := [d1, d2] }
  | _ => none }
def RevealedPartsWrongFalsely : Prop := revealedPartsRow.holds Try.pinned (OpenSpec.ofChange revealedPartsWrong)

/-- 'saleroomlaw37.ActivityExact': WHATEVER THE INPUT: true; the input reads as it did. -/
def activityExactSpec : ChangeSpec := { name := "activityExact", fn := fun _ => fun
  | [d1, d2, d3, d4, d5] => { results := [.lit (.bool true)], args := [d1, d2, d3, d4, d5] }
  | _ => none }
def activityExactRow : OpenClaim := { program := "ythjahianafohjaa", sum := "93813ed31c9207c634f9a6772cad9d214e077b8fa725735d7ba32686e638edc4", func := "saleroom/saleroomlaw37.ActivityExact", spec := "activityExact", unfollowed := true, recurses := true, apart := false }
def ActivityExactSaid : Prop := activityExactRow.holds Try.pinned (OpenSpec.ofChange activityExactSpec)

/-- ITS FALSE NEIGHBOUR: 'it returns false'. Refute it at one input. -/
def activityExactWrong : ChangeSpec := { name := "activityExact", fn := fun _ => fun
  | [d1, d2, d3, d4, d5] => { results := [.lit (.bool false)], args := [d1, d2, d3, d4, d5] }
  | _ => none }
def ActivityExactWrongFalsely : Prop := activityExactRow.holds Try.pinned (OpenSpec.ofChange activityExactWrong)

/-- 'saleroomlaw37.ActivityPoints': WHATEVER THE INPUT: true; the input reads as it did. -/
def activityPointsSpec : ChangeSpec := { name := "activityPoints", fn := fun _ => fun
  | [d1, d2, d3, d4] => { results := [.lit (.bool true)], args := [d1, d2, d3, d4] }
  | _ => none }
def activityPointsRow : OpenClaim := { program := "ythjahianafohjaa", sum := "93813ed31c9207c634f9a6772cad9d214e077b8fa725735d7ba32686e638edc4", func := "saleroom/saleroomlaw37.ActivityPoints", spec := "activityPoints", unfollowed := true, recurses := true, apart := false }
def ActivityPointsSaid : Prop := activityPointsRow.holds Try.pinned (OpenSpec.ofChange activityPointsSpec)

/-- ITS FALSE NEIGHBOUR: 'it returns false'. Refute it at one input. -/
def activityPointsWrong : ChangeSpec := { name := "activityPoints", fn := fun _ => fun
  | [d1, d2, d3, d4] => { results := [.lit (.bool false)], args := [d1, d2, d3, d4] }
  | _ => none }
def ActivityPointsWrongFalsely : Prop := activityPointsRow.holds Try.pinned (OpenSpec.ofChange activityPointsWrong)

/-- 'saleroomlaw37.ActivityFunds': WHATEVER THE INPUT: true; the input reads as it did. -/
def activityFundsSpec : ChangeSpec := { name := "activityFunds", fn := fun _ => fun
  | [d1, d2, d3] => { results := [.lit (.bool true)], args := [d1, d2, d3] }
  | _ => none }
def activityFundsRow : OpenClaim := { program := "ythjahianafohjaa", sum := "93813ed31c9207c634f9a6772cad9d214e077b8fa725735d7ba32686e638edc4", func := "saleroom/saleroomlaw37.ActivityFunds", spec := "activityFunds", unfollowed := true, recurses := true, apart := false }
def ActivityFundsSaid : Prop := activityFundsRow.holds Try.pinned (OpenSpec.ofChange activityFundsSpec)

/-- ITS FALSE NEIGHBOUR: 'it returns false'. Refute it at one input. -/
def activityFundsWrong : ChangeSpec := { name := "activityFunds", fn := fun _ => fun
  | [d1, d2, d3] => { results := [.lit (.bool false)], args := [d1, d2, d3] }
  | _ => none }
def ActivityFundsWrongFalsely : Prop := activityFundsRow.holds Try.pinned (OpenSpec.ofChange activityFundsWrong)

/-- 'saleroomlaw37.ActivityStraight': WHATEVER THE INPUT: true; the input reads as it did. -/
def activityStraightSpec : ChangeSpec := { name := "activityStraight", fn := fun _ => fun
  | [d1, d2, d3] => { results := [.lit (.bool true)], args := [d1, d2, d3] }
  | _ => none }
def activityStraightRow : OpenClaim := { program := "ythjahianafohjaa", sum := "93813ed31c9207c634f9a6772cad9d214e077b8fa725735d7ba32686e638edc4", func := "saleroom/saleroomlaw37.ActivityStraight", spec := "activityStraight", unfollowed := true, recurses := true, apart := false }
def ActivityStraightSaid : Prop := activityStraightRow.holds Try.pinned (OpenSpec.ofChange activityStraightSpec)

/-- ITS FALSE NEIGHBOUR: 'it returns false'. Refute it at one input. -/
def activityStraightWrong : ChangeSpec := { name := "activityStraight", fn := fun _ => fun
  | [d1, d2, d3] => { results := [.lit (.bool false)], args := [d1, d2, d3] }
  | _ => none }
def ActivityStraightWrongFalsely : Prop := activityStraightRow.holds Try.pinned (OpenSpec.ofChange activityStraightWrong)

/-- 'saleroomlaw37.ActivityLeaves': WHATEVER THE INPUT: true; the input reads as it did. -/
def activityLeavesSpec : ChangeSpec := { name := "activityLeaves", fn := fun _ => fun
  | [d1, d2, d3, d4] => { results := [.lit (.bool true)], args := [d1, d2, d3, d4] }
  | _ => none }
def activityLeavesRow : OpenClaim := { program := "ythjahianafohjaa", sum := "93813ed31c9207c634f9a6772cad9d214e077b8fa725735d7ba32686e638edc4", func := "saleroom/saleroomlaw37.ActivityLeaves", spec := "activityLeaves", unfollowed := true, recurses := true, apart := false }
def ActivityLeavesSaid : Prop := activityLeavesRow.holds Try.pinned (OpenSpec.ofChange activityLeavesSpec)

/-- ITS FALSE NEIGHBOUR: 'it returns false'. Refute it at one input. -/
def activityLeavesWrong : ChangeSpec := { name := "activityLeaves", fn := fun _ => fun
  | [d1, d2, d3, d4] => { results := [.lit (.bool false)], args := [d1, d2, d3, d4] }
  | _ => none }
def ActivityLeavesWrongFalsely : Prop := activityLeavesRow.holds Try.pinned (OpenSpec.ofChange activityLeavesWrong)

/-- 'saleroomlaw36.RevealedTruthful': WHATEVER THE INPUT: true; the input reads as it did. -/
def revealedTruthfulSpec : ChangeSpec := { name := "revealedTruthful", fn := fun _ => fun
  | [d1, d2, d3] => { results := [.lit (.bool true)], args := [d1, d2, d3] }
  | _ => none }
def revealedTruthfulRow : OpenClaim := { program := "ythjahianafohjaa", sum := "93813ed31c9207c634f9a6772cad9d214e077b8fa725735d7ba32686e638edc4", func := "saleroom/saleroomlaw36.RevealedTruthful", spec := "revealedTruthful", unfollowed := true, recurses := true, apart := false }
def RevealedTruthfulSaid : Prop := revealedTruthfulRow.holds Try.pinned (OpenSpec.ofChange revealedTruthfulSpec)

/-- ITS FALSE NEIGHBOUR: 'it returns false'. Refute it at one input. -/
def revealedTruthfulWrong : ChangeSpec := { name := "revealedTruthful", fn := fun _ => fun
  | [d1, d2, d3] => { results := [.lit (.bool false)], args := [d1, d2, d3] }
  | _ => none }
def RevealedTruthfulWrongFalsely : Prop := revealedTruthfulRow.holds Try.pinned (OpenSpec.ofChange revealedTruthfulWrong)

/- THE SECOND FORM. 'bulk': how many values and letters a reading holds, each counted each time it is reached (what is shared counts as often as it is met; a slice's spare places count too). A statement '..UptoSaid' is the law's where the arguments, and the package variables that the reading takes, are together of bulk at most 1048576: NARROWER than '..Said'. Prove '..Said' where nothing that the law and all that it calls make is longer than what came in: it says more and counts as full. Else prove '..UptoSaid'. A law counts once. -/
mutual
def uptoBulk {H : Type} : DataW H → Nat
  | .lit (.string bytes) => bytes.length + 1
  | .lit _ => 1
  | .nil => 1
  | .ptr d => uptoBulk d + 1
  | .slice elems spare => uptoBulkAll elems + uptoBulkAll spare + 1
  | .agg parts => uptoBulkAll parts + 1
  | .iface _ d => uptoBulk d + 1
  | .map entries => uptoBulkEntries entries + 1
  | .held _ => 1
def uptoBulkAll {H : Type} : List (DataW H) → Nat
  | [] => 0
  | d :: r => uptoBulk d + uptoBulkAll r
def uptoBulkEntries {H : Type} : List (Lit × DataW H) → Nat
  | [] => 0
  | x :: r => uptoBulkEntry x + uptoBulkEntries r
def uptoBulkEntry {H : Type} : Lit × DataW H → Nat
  | (.string bytes, d) => bytes.length + uptoBulk d + 1
  | (_, d) => uptoBulk d + 1
 end
def uptoSmall : (H : Type) → List (DataW H) → Bool := fun _ ds => decide (uptoBulkAll ds ≤ 1048576)
def OpenSpec.upto (s : _root_.Go.ChangeSpec) : _root_.Go.OpenSpec := { _root_.Go.OpenSpec.ofChange s with cond := some uptoSmall }

/-- 'saleroomlaw36.RevealedExact', WHERE WHAT IT READS IS OF BULK AT MOST 1048576: true; the input reads as it did. -/
def revealedExactUptoRow : OpenClaim := { program := "ythjahianafohjaa", sum := "93813ed31c9207c634f9a6772cad9d214e077b8fa725735d7ba32686e638edc4", func := "saleroom/saleroomlaw36.RevealedExact", spec := "revealedExact", apart := false, narrowed := true }
def RevealedExactUptoSaid : Prop := revealedExactUptoRow.holds Try.pinned (OpenSpec.upto revealedExactSpec)

/-- 'saleroomlaw36.RevealedVerifies', WHERE WHAT IT READS IS OF BULK AT MOST 1048576: true; the input reads as it did. -/
def revealedVerifiesUptoRow : OpenClaim := { program := "ythjahianafohjaa", sum := "93813ed31c9207c634f9a6772cad9d214e077b8fa725735d7ba32686e638edc4", func := "saleroom/saleroomlaw36.RevealedVerifies", spec := "revealedVerifies", apart := false, narrowed := true }
def RevealedVerifiesUptoSaid : Prop := revealedVerifiesUptoRow.holds Try.pinned (OpenSpec.upto revealedVerifiesSpec)

/-- 'saleroomlaw36.RevealedSound', WHERE WHAT IT READS IS OF BULK AT MOST 1048576: true; the input reads as it did. -/
def revealedSoundUptoRow : OpenClaim := { program := "ythjahianafohjaa", sum := "93813ed31c9207c634f9a6772cad9d214e077b8fa725735d7ba32686e638edc4", func := "saleroom/saleroomlaw36.RevealedSound", spec := "revealedSound", apart := false, narrowed := true }
def RevealedSoundUptoSaid : Prop := revealedSoundUptoRow.holds Try.pinned (OpenSpec.upto revealedSoundSpec)

/-- 'saleroomlaw36.RevealedGains', WHERE WHAT IT READS IS OF BULK AT MOST 1048576: true; the input reads as it did. -/
def revealedGainsUptoRow : OpenClaim := { program := "ythjahianafohjaa", sum := "93813ed31c9207c634f9a6772cad9d214e077b8fa725735d7ba32686e638edc4", func := "saleroom/saleroomlaw36.RevealedGains", spec := "revealedGains", apart := false, narrowed := true }
def RevealedGainsUptoSaid : Prop := revealedGainsUptoRow.holds Try.pinned (OpenSpec.upto revealedGainsSpec)

/-- 'saleroomlaw36.RevealedParts', WHERE WHAT IT READS IS OF BULK AT MOST 1048576: true; the input reads as it did. -/
def revealedPartsUptoRow : OpenClaim := { program := "ythjahianafohjaa", sum := "93813ed31c9207c634f9a6772cad9d214e077b8fa725735d7ba32686e638edc4", func := "saleroom/saleroomlaw36.RevealedParts", spec := "revealedParts", apart := false, narrowed := true }
def RevealedPartsUptoSaid : Prop := revealedPartsUptoRow.holds Try.pinned (OpenSpec.upto revealedPartsSpec)

/-- 'saleroomlaw37.ActivityExact', WHERE WHAT IT READS IS OF BULK AT MOST 1048576: true; the input reads as it did. -/
def activityExactUptoRow : OpenClaim := { program := "ythjahianafohjaa", sum := "93813ed31c9207c634f9a6772cad9d214e077b8fa725735d7ba32686e638edc4", func := "saleroom/saleroomlaw37.ActivityExact", spec := "activityExact", unfollowed := true, recurses := true, apart := false, narrowed := true }
def ActivityExactUptoSaid : Prop := activityExactUptoRow.holds Try.pinned (OpenSpec.upto activityExactSpec)

/-- 'saleroomlaw37.ActivityPoints', WHERE WHAT IT READS IS OF BULK AT MOST 1048576: true; the input reads as it did. -/
def activityPointsUptoRow : OpenClaim := { program := "ythjahianafohjaa", sum := "93813ed31c9207c634f9a6772cad9d214e077b8fa725735d7ba32686e638edc4", func := "saleroom/saleroomlaw37.ActivityPoints", spec := "activityPoints", unfollowed := true, recurses := true, apart := false, narrowed := true }
def ActivityPointsUptoSaid : Prop := activityPointsUptoRow.holds Try.pinned (OpenSpec.upto activityPointsSpec)

/-- 'saleroomlaw37.ActivityFunds', WHERE WHAT IT READS IS OF BULK AT MOST 1048576: true; the input reads as it did. -/
def activityFundsUptoRow : OpenClaim := { program := "ythjahianafohjaa", sum := "93813ed31c9207c634f9a6772cad9d214e077b8fa725735d7ba32686e638edc4", func := "saleroom/saleroomlaw37.ActivityFunds", spec := "activityFunds", unfollowed := true, recurses := true, apart := false, narrowed := true }
def ActivityFundsUptoSaid : Prop := activityFundsUptoRow.holds Try.pinned (OpenSpec.upto activityFundsSpec)

/-- 'saleroomlaw37.ActivityStraight', WHERE WHAT IT READS IS OF BULK AT MOST 1048576: true; the input reads as it did. -/
def activityStraightUptoRow : OpenClaim := { program := "ythjahianafohjaa", sum := "93813ed31c9207c634f9a6772cad9d214e077b8fa725735d7ba32686e638edc4", func := "saleroom/saleroomlaw37.ActivityStraight", spec := "activityStraight", unfollowed := true, recurses := true, apart := false, narrowed := true }
def ActivityStraightUptoSaid : Prop := activityStraightUptoRow.holds Try.pinned (OpenSpec.upto activityStraightSpec)

/-- 'saleroomlaw37.ActivityLeaves', WHERE WHAT IT READS IS OF BULK AT MOST 1048576: true; the input reads as it did. -/
def activityLeavesUptoRow : OpenClaim := { program := "ythjahianafohjaa", sum := "93813ed31c9207c634f9a6772cad9d214e077b8fa725735d7ba32686e638edc4", func := "saleroom/saleroomlaw37.ActivityLeaves", spec := "activityLeaves", unfollowed := true, recurses := true, apart := false, narrowed := true }
def ActivityLeavesUptoSaid : Prop := activityLeavesUptoRow.holds Try.pinned (OpenSpec.upto activityLeavesSpec)

/-- 'saleroomlaw36.RevealedTruthful', WHERE WHAT IT READS IS OF BULK AT MOST 1048576: true; the input reads as it did. -/
def revealedTruthfulUptoRow : OpenClaim := { program := "ythjahianafohjaa", sum := "93813ed31c9207c634f9a6772cad9d214e077b8fa725735d7ba32686e638edc4", func := "saleroom/saleroomlaw36.RevealedTruthful", spec := "revealedTruthful", unfollowed := true, recurses := true, apart := false, narrowed := true }
def RevealedTruthfulUptoSaid : Prop := revealedTruthfulUptoRow.holds Try.pinned (OpenSpec.upto revealedTruthfulSpec)

end Rows
end Go.Proofs.Ythjahianafohjaa
