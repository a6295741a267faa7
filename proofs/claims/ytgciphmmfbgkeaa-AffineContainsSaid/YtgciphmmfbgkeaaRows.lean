/-
  No cell of these rows narrows 'for every input' (looked for: loops, veiled, ifaces, maps, wideKeys, modest, calm, conditions, laid).
  DERIVED. THE GIVEN ROWS OF THIS SEAT. 7 by the template 'for every input the law returns true; each argument reads behind the call as it read before'; 0 by the template 'total and deterministic' (their statements: YtgciphmmfbgkeaaTotals.lean).
  GIVEN WITH THE SEED: the statements are not yours to turn. If you find one false, say at which input.
  Laid BY PROGRAM, IN A SANDBOX (cutbox-rows.mjs): the forced cells as the released guide's own fill.sh prints them over the translation f4233c5bf7b5ec98… (all of the seat's roots in one cut). By AI agents, Wed Nov 11 2026. No macro, syntax, notation, axiom, sorry.
-/
import Derived.Test.YtgciphmmfbgkeaaChecked
import GoSem.Claim
import GoSem.ClaimJoined
import GoSem.ClaimMapViews
import Derived.JoinedTies
import Derived.KernelRfl
namespace Go.Proofs.Ytgciphmmfbgkeaa
/- THE CELL 'sum', in the pinned program and in every row, IS THE sha256 OF THE DUMP (.gsa) THAT YtgciphmmfbgkeaaProg.lean LOADS. Nothing in Lean hashes anything: it is a label: what it is worth is what the hold of that sum in a sandbox is worth. -/
noncomputable def Try.pinned : Pinned := { name := "ytgciphmmfbgkeaa", sum := "f4233c5bf7b5ec9842067bc3443fa55a3e7f053f10137d61552a1ae0f465609f", checked := Try.checked }
namespace Rows
def none {H : Type} : Left H := { results := [], args := [] }

/-- 'imageeditorlaw12.AffineApplies': WHATEVER THE INPUT: true; the input reads as it did. -/
def affineAppliesSpec : ChangeSpec := { name := "affineApplies", fn := fun _ => fun
  | [d1, d2] => { results := [.lit (.bool true)], args := [d1, d2] }
  | _ => none }
def affineAppliesRow : OpenClaim := { program := "ytgciphmmfbgkeaa", sum := "f4233c5bf7b5ec9842067bc3443fa55a3e7f053f10137d61552a1ae0f465609f", func := "imageeditor/imageeditorlaw12.AffineApplies", spec := "affineApplies", unfollowed := true, recurses := true, apart := false }
def AffineAppliesSaid : Prop := affineAppliesRow.holds Try.pinned (OpenSpec.ofChange affineAppliesSpec)

/-- ITS FALSE NEIGHBOUR: 'it returns false'. Refute it at one input. -/
def affineAppliesWrong : ChangeSpec := { name := "affineApplies", fn := fun _ => fun
  | [d1, d2] => { results := [.lit (.bool false)], args := [d1, d2] }
  | _ => none }
def AffineAppliesWrongFalsely : Prop := affineAppliesRow.holds Try.pinned (OpenSpec.ofChange affineAppliesWrong)

/-- 'imageeditorlaw12.AffineMakes': WHATEVER THE INPUT: true; the input reads as it did. -/
def affineMakesSpec : ChangeSpec := { name := "affineMakes", fn := fun _ => fun
  | [d1, d2, d3] => { results := [.lit (.bool true)], args := [d1, d2, d3] }
  | _ => none }
def affineMakesRow : OpenClaim := { program := "ytgciphmmfbgkeaa", sum := "f4233c5bf7b5ec9842067bc3443fa55a3e7f053f10137d61552a1ae0f465609f", func := "imageeditor/imageeditorlaw12.AffineMakes", spec := "affineMakes", unfollowed := true, recurses := true, apart := false }
def AffineMakesSaid : Prop := affineMakesRow.holds Try.pinned (OpenSpec.ofChange affineMakesSpec)

/-- ITS FALSE NEIGHBOUR: 'it returns false'. Refute it at one input. -/
def affineMakesWrong : ChangeSpec := { name := "affineMakes", fn := fun _ => fun
  | [d1, d2, d3] => { results := [.lit (.bool false)], args := [d1, d2, d3] }
  | _ => none }
def AffineMakesWrongFalsely : Prop := affineMakesRow.holds Try.pinned (OpenSpec.ofChange affineMakesWrong)

/-- 'imageeditorlaw12.AffineThens': WHATEVER THE INPUT: true; the input reads as it did. -/
def affineThensSpec : ChangeSpec := { name := "affineThens", fn := fun _ => fun
  | [d1, d2] => { results := [.lit (.bool true)], args := [d1, d2] }
  | _ => none }
def affineThensRow : OpenClaim := { program := "ytgciphmmfbgkeaa", sum := "f4233c5bf7b5ec9842067bc3443fa55a3e7f053f10137d61552a1ae0f465609f", func := "imageeditor/imageeditorlaw12.AffineThens", spec := "affineThens", unfollowed := true, recurses := true, apart := false }
def AffineThensSaid : Prop := affineThensRow.holds Try.pinned (OpenSpec.ofChange affineThensSpec)

/-- ITS FALSE NEIGHBOUR: 'it returns false'. Refute it at one input. -/
def affineThensWrong : ChangeSpec := { name := "affineThens", fn := fun _ => fun
  | [d1, d2] => { results := [.lit (.bool false)], args := [d1, d2] }
  | _ => none }
def AffineThensWrongFalsely : Prop := affineThensRow.holds Try.pinned (OpenSpec.ofChange affineThensWrong)

/-- 'imageeditorlaw12.AffineNeutral': WHATEVER THE INPUT: true; the input reads as it did. -/
def affineNeutralSpec : ChangeSpec := { name := "affineNeutral", fn := fun _ => fun
  | [d1, d2, d3, d4] => { results := [.lit (.bool true)], args := [d1, d2, d3, d4] }
  | _ => none }
def affineNeutralRow : OpenClaim := { program := "ytgciphmmfbgkeaa", sum := "f4233c5bf7b5ec9842067bc3443fa55a3e7f053f10137d61552a1ae0f465609f", func := "imageeditor/imageeditorlaw12.AffineNeutral", spec := "affineNeutral", unfollowed := true, recurses := true, apart := false }
def AffineNeutralSaid : Prop := affineNeutralRow.holds Try.pinned (OpenSpec.ofChange affineNeutralSpec)

/-- ITS FALSE NEIGHBOUR: 'it returns false'. Refute it at one input. -/
def affineNeutralWrong : ChangeSpec := { name := "affineNeutral", fn := fun _ => fun
  | [d1, d2, d3, d4] => { results := [.lit (.bool false)], args := [d1, d2, d3, d4] }
  | _ => none }
def AffineNeutralWrongFalsely : Prop := affineNeutralRow.holds Try.pinned (OpenSpec.ofChange affineNeutralWrong)

/-- 'imageeditorlaw12.AffineComposes': WHATEVER THE INPUT: true; the input reads as it did. -/
def affineComposesSpec : ChangeSpec := { name := "affineComposes", fn := fun _ => fun
  | [d1, d2, d3] => { results := [.lit (.bool true)], args := [d1, d2, d3] }
  | _ => none }
def affineComposesRow : OpenClaim := { program := "ytgciphmmfbgkeaa", sum := "f4233c5bf7b5ec9842067bc3443fa55a3e7f053f10137d61552a1ae0f465609f", func := "imageeditor/imageeditorlaw12.AffineComposes", spec := "affineComposes", unfollowed := true, recurses := true, apart := false }
def AffineComposesSaid : Prop := affineComposesRow.holds Try.pinned (OpenSpec.ofChange affineComposesSpec)

/-- ITS FALSE NEIGHBOUR: 'it returns false'. Refute it at one input. -/
def affineComposesWrong : ChangeSpec := { name := "affineComposes", fn := fun _ => fun
  | [d1, d2, d3] => { results := [.lit (.bool false)], args := [d1, d2, d3] }
  | _ => none }
def AffineComposesWrongFalsely : Prop := affineComposesRow.holds Try.pinned (OpenSpec.ofChange affineComposesWrong)

/-- 'imageeditorlaw12.AffineReturns': WHATEVER THE INPUT: true; the input reads as it did. -/
def affineReturnsSpec : ChangeSpec := { name := "affineReturns", fn := fun _ => fun
  | [d1, d2] => { results := [.lit (.bool true)], args := [d1, d2] }
  | _ => none }
def affineReturnsRow : OpenClaim := { program := "ytgciphmmfbgkeaa", sum := "f4233c5bf7b5ec9842067bc3443fa55a3e7f053f10137d61552a1ae0f465609f", func := "imageeditor/imageeditorlaw12.AffineReturns", spec := "affineReturns", unfollowed := true, recurses := true, apart := false }
def AffineReturnsSaid : Prop := affineReturnsRow.holds Try.pinned (OpenSpec.ofChange affineReturnsSpec)

/-- ITS FALSE NEIGHBOUR: 'it returns false'. Refute it at one input. -/
def affineReturnsWrong : ChangeSpec := { name := "affineReturns", fn := fun _ => fun
  | [d1, d2] => { results := [.lit (.bool false)], args := [d1, d2] }
  | _ => none }
def AffineReturnsWrongFalsely : Prop := affineReturnsRow.holds Try.pinned (OpenSpec.ofChange affineReturnsWrong)

/-- 'imageeditorlaw12.AffineContains': WHATEVER THE INPUT: true; the input reads as it did. -/
def affineContainsSpec : ChangeSpec := { name := "affineContains", fn := fun _ => fun
  | [d1, d2, d3] => { results := [.lit (.bool true)], args := [d1, d2, d3] }
  | _ => none }
def affineContainsRow : OpenClaim := { program := "ytgciphmmfbgkeaa", sum := "f4233c5bf7b5ec9842067bc3443fa55a3e7f053f10137d61552a1ae0f465609f", func := "imageeditor/imageeditorlaw12.AffineContains", spec := "affineContains", unfollowed := true, recurses := true, apart := false }
def AffineContainsSaid : Prop := affineContainsRow.holds Try.pinned (OpenSpec.ofChange affineContainsSpec)

/-- ITS FALSE NEIGHBOUR: 'it returns false'. Refute it at one input. -/
def affineContainsWrong : ChangeSpec := { name := "affineContains", fn := fun _ => fun
  | [d1, d2, d3] => { results := [.lit (.bool false)], args := [d1, d2, d3] }
  | _ => none }
def AffineContainsWrongFalsely : Prop := affineContainsRow.holds Try.pinned (OpenSpec.ofChange affineContainsWrong)

/- THE SECOND FORM. 'bulk': how many values and letters a reading holds, each counted each time it is reached (what is shared counts as often as it is met; a slice's spare places count too). A statement '..UptoSaid' is the law's where the arguments, and the package variables that the reading takes, are together of bulk at most 1048576: NARROWER than '..Said'. Prove '..Said' where nothing that the law and all that it calls make is longer than what came in: it says more and counts as full. Else prove '..UptoSaid'. A law counts once. -/
mutual
def uptoBulk {H : Type} : DataW H → Nat
  | .lit (.string bytes) => bytes.length + 1
  | .lit _ => 1
  | .nil => 1
  | .ptr d => uptoBulk d + 1
  | .slice elems spare => uptoBulkAll elems + uptoBulkAll spare + 1
  | .agg parts => uptoBulkAll parts + 1
  | .iface _ d => uptoBulk d + 1
  | .map entries => uptoBulkEntries entries + 1
  | .held _ => 1
def uptoBulkAll {H : Type} : List (DataW H) → Nat
  | [] => 0
  | d :: r => uptoBulk d + uptoBulkAll r
def uptoBulkEntries {H : Type} : List (Lit × DataW H) → Nat
  | [] => 0
  | x :: r => uptoBulkEntry x + uptoBulkEntries r
def uptoBulkEntry {H : Type} : Lit × DataW H → Nat
  | (.string bytes, d) => bytes.length + uptoBulk d + 1
  | (_, d) => uptoBulk d + 1
 end
def uptoSmall : (H : Type) → List (DataW H) → Bool := fun _ ds => decide (uptoBulkAll ds ≤ 1048576)
def OpenSpec.upto (s : _root_.Go.ChangeSpec) : _root_.Go.OpenSpec := { _root_.Go.OpenSpec.ofChange s with cond := some uptoSmall }

/-- 'imageeditorlaw12.AffineApplies', WHERE WHAT IT READS IS OF BULK AT MOST 1048576: true; the input reads as it did. -/
def affineAppliesUptoRow : OpenClaim := { program := "ytgciphmmfbgkeaa", sum := "f4233c5bf7b5ec9842067bc3443fa55a3e7f053f10137d61552a1ae0f465609f", func := "imageeditor/imageeditorlaw12.AffineApplies", spec := "affineApplies", unfollowed := true, recurses := true, apart := false, narrowed := true }
def AffineAppliesUptoSaid : Prop := affineAppliesUptoRow.holds Try.pinned (OpenSpec.upto affineAppliesSpec)

/-- 'imageeditorlaw12.AffineMakes', WHERE WHAT IT READS IS OF BULK AT MOST 1048576: true; the input reads as it did. -/
def affineMakesUptoRow : OpenClaim := { program := "ytgciphmmfbgkeaa", sum := "f4233c5bf7b5ec9842067bc3443fa55a3e7f053f10137d61552a1ae0f465609f", func := "imageeditor/imageeditorlaw12.AffineMakes", spec := "affineMakes", unfollowed := true, recurses := true, apart := false, narrowed := true }
def AffineMakesUptoSaid : Prop := affineMakesUptoRow.holds Try.pinned (OpenSpec.upto affineMakesSpec)

/-- 'imageeditorlaw12.AffineThens', WHERE WHAT IT READS IS OF BULK AT MOST 1048576: true; the input reads as it did. -/
def affineThensUptoRow : OpenClaim := { program := "ytgciphmmfbgkeaa", sum := "f4233c5bf7b5ec9842067bc3443fa55a3e7f053f10137d61552a1ae0f465609f", func := "imageeditor/imageeditorlaw12.AffineThens", spec := "affineThens", unfollowed := true, recurses := true, apart := false, narrowed := true }
def AffineThensUptoSaid : Prop := affineThensUptoRow.holds Try.pinned (OpenSpec.upto affineThensSpec)

/-- 'imageeditorlaw12.AffineNeutral', WHERE WHAT IT READS IS OF BULK AT MOST 1048576: true; the input reads as it did. -/
def affineNeutralUptoRow : OpenClaim := { program := "ytgciphmmfbgkeaa", sum := "f4233c5bf7b5ec9842067bc3443fa55a3e7f053f10137d61552a1ae0f465609f", func := "imageeditor/imageeditorlaw12.AffineNeutral", spec := "affineNeutral", unfollowed := true, recurses := true, apart := false, narrowed := true }
def AffineNeutralUptoSaid : Prop := affineNeutralUptoRow.holds Try.pinned (OpenSpec.upto affineNeutralSpec)

/-- 'imageeditorlaw12.AffineComposes', WHERE WHAT IT READS IS OF BULK AT MOST 1048576: true; the input reads as it did. -/
def affineComposesUptoRow : OpenClaim := { program := "ytgciphmmfbgkeaa", sum := "f4233c5bf7b5ec9842067bc3443fa55a3e7f053f10137d61552a1ae0f465609f", func := "imageeditor/imageeditorlaw12.AffineComposes", spec := "affineComposes", unfollowed := true, recurses := true, apart := false, narrowed := true }
def AffineComposesUptoSaid : Prop := affineComposesUptoRow.holds Try.pinned (OpenSpec.upto affineComposesSpec)

/-- 'imageeditorlaw12.AffineReturns', WHERE WHAT IT READS IS OF BULK AT MOST 1048576: true; the input reads as it did. -/
def affineReturnsUptoRow : OpenClaim := { program := "ytgciphmmfbgkeaa", sum := "f4233c5bf7b5ec9842067bc3443fa55a3e7f053f10137d61552a1ae0f465609f", func := "imageeditor/imageeditorlaw12.AffineReturns", spec := "affineReturns", unfollowed := true, recurses := true, apart := false, narrowed := true }
def AffineReturnsUptoSaid : Prop := affineReturnsUptoRow.holds Try.pinned (OpenSpec.upto affineReturnsSpec)

/-- 'imageeditorlaw12.AffineContains', WHERE WHAT IT READS IS OF BULK AT MOST 1048576: true; the input reads as it did. -/
def affineContainsUptoRow : OpenClaim := { program := "ytgciphmmfbgkeaa", sum := "f4233c5bf7b5ec9842067bc3443fa55a3e7f053f10137d61552a1ae0f465609f", func := "imageeditor/imageeditorlaw12.AffineContains", spec := "affineContains", unfollowed := true, recurses := true, apart := false, narrowed := true }
def AffineContainsUptoSaid : Prop := affineContainsUptoRow.holds Try.pinned (OpenSpec.upto affineContainsSpec)

end Rows
end Go.Proofs.Ytgciphmmfbgkeaa
