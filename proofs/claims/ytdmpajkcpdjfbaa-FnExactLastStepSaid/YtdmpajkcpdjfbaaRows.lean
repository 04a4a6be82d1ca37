/-
  No cell of these rows narrows 'for every input' (looked for: loops, veiled, ifaces, maps, wideKeys, modest, calm, conditions, laid).
  DERIVED. THE GIVEN ROWS OF THIS SEAT. 13 by the template 'for every input the law returns true; each argument reads behind the call as it read before'; 0 by the template 'total and deterministic' (their statements: YtdmpajkcpdjfbaaTotals.lean).
  GIVEN WITH THE SEED: the statements are not yours to turn. If you find one false, say at which input.
  Laid BY PROGRAM, IN A SANDBOX (cutbox-rows.mjs): the forced cells as the released guide's own fill.sh prints them over the translation 8d82b0405c251b5d… (all of the seat's roots in one cut). By AI agents, Wed Nov 11 2026. No macro, syntax, notation, axiom, sorry.
-/
import Derived.Test.YtdmpajkcpdjfbaaChecked
import GoSem.Claim
import GoSem.ClaimJoined
import GoSem.ClaimMapViews
import Derived.JoinedTies
import Derived.KernelRfl
namespace Go.Proofs.Ytdmpajkcpdjfbaa
/- THE CELL 'sum', in the pinned program and in every row, IS THE sha256 OF THE DUMP (.gsa) THAT YtdmpajkcpdjfbaaProg.lean LOADS. Nothing in Lean hashes anything: it is a label: what it is worth is what the hold of that sum in a sandbox is worth. -/
noncomputable def Try.pinned : Pinned := { name := "ytdmpajkcpdjfbaa", sum := "8d82b0405c251b5dc7ef28d414f5eac494a763b5f225bf468186f8318b1afb5d", checked := Try.checked }
namespace Rows
def none {H : Type} : Left H := { results := [], args := [] }

/-- 'laws.FnExactLeastTrueRows': WHATEVER THE INPUT: true; the input reads as it did. -/
def fnExactLeastTrueRowsSpec : ChangeSpec := { name := "fnExactLeastTrueRows", fn := fun _ => fun
  | [d] => { results := [.lit (.bool true)], args := [d] }
  | _ => none }
def fnExactLeastTrueRowsRow : OpenClaim := { program := "ytdmpajkcpdjfbaa", sum := "8d82b0405c251b5dc7ef28d414f5eac494a763b5f225bf468186f8318b1afb5d", func := "loop.example/g01323/laws.FnExactLeastTrueRows", spec := "fnExactLeastTrueRows", unfollowed := true, recurses := true, apart := false }
def FnExactLeastTrueRowsSaid : Prop := fnExactLeastTrueRowsRow.holds Try.pinned (OpenSpec.ofChange fnExactLeastTrueRowsSpec)

/-- ITS FALSE NEIGHBOUR: 'it returns false'. Refute it at one input. -/
def fnExactLeastTrueRowsWrong : ChangeSpec := { name := "fnExactLeastTrueRows", fn := fun _ => fun
  | [d] => { results := [.lit (.bool false)], args := [d] }
  | _ => none }
def FnExactLeastTrueRowsWrongFalsely : Prop := fnExactLeastTrueRowsRow.holds Try.pinned (OpenSpec.ofChange fnExactLeastTrueRowsWrong)

/-- 'laws.FnExactLevelsOf': WHATEVER THE INPUT: true; the input reads as it did. -/
def fnExactLevelsOfSpec : ChangeSpec := { name := "fnExactLevelsOf", fn := fun _ => fun
  | [d] => { results := [.lit (.bool true)], args := [d] }
  | _ => none }
def fnExactLevelsOfRow : OpenClaim := { program := "ytdmpajkcpdjfbaa", sum := "8d82b0405c251b5dc7ef28d414f5eac494a763b5f225bf468186f8318b1afb5d", func := "loop.example/g01323/laws.FnExactLevelsOf", spec := "fnExactLevelsOf", apart := false }
def FnExactLevelsOfSaid : Prop := fnExactLevelsOfRow.holds Try.pinned (OpenSpec.ofChange fnExactLevelsOfSpec)

/-- ITS FALSE NEIGHBOUR: 'it returns false'. Refute it at one input. -/
def fnExactLevelsOfWrong : ChangeSpec := { name := "fnExactLevelsOf", fn := fun _ => fun
  | [d] => { results := [.lit (.bool false)], args := [d] }
  | _ => none }
def FnExactLevelsOfWrongFalsely : Prop := fnExactLevelsOfRow.holds Try.pinned (OpenSpec.ofChange fnExactLevelsOfWrong)

/-- 'laws.FnExactTransversalsOf': WHATEVER THE INPUT: true; the input reads as it did. -/
def fnExactTransversalsOfSpec : ChangeSpec := { name := "fnExactTransversalsOf", fn := fun _ => fun
  | [d] => { results := [.lit (.bool true)], args := [d] }
  | _ => none }
def fnExactTransversalsOfRow : OpenClaim := { program := "ytdmpajkcpdjfbaa", sum := "8d82b0405c251b5dc7ef28d414f5eac494a763b5f225bf468186f8318b1afb5d", func := "loop.example/g01323/laws.FnExactTransversalsOf", spec := "fnExactTransversalsOf", unfollowed := true, recurses := true, apart := false }
def FnExactTransversalsOfSaid : Prop := fnExactTransversalsOfRow.holds Try.pinned (OpenSpec.ofChange fnExactTransversalsOfSpec)

/-- ITS FALSE NEIGHBOUR: 'it returns false'. Refute it at one input. -/
def fnExactTransversalsOfWrong : ChangeSpec := { name := "fnExactTransversalsOf", fn := fun _ => fun
  | [d] => { results := [.lit (.bool false)], args := [d] }
  | _ => none }
def FnExactTransversalsOfWrongFalsely : Prop := fnExactTransversalsOfRow.holds Try.pinned (OpenSpec.ofChange fnExactTransversalsOfWrong)

/-- 'laws.FnExactClosureOf': WHATEVER THE INPUT: true; the input reads as it did. -/
def fnExactClosureOfSpec : ChangeSpec := { name := "fnExactClosureOf", fn := fun _ => fun
  | [d1, d2] => { results := [.lit (.bool true)], args := [d1, d2] }
  | _ => none }
def fnExactClosureOfRow : OpenClaim := { program := "ytdmpajkcpdjfbaa", sum := "8d82b0405c251b5dc7ef28d414f5eac494a763b5f225bf468186f8318b1afb5d", func := "loop.example/g01323/laws.FnExactClosureOf", spec := "fnExactClosureOf", unfollowed := true, recurses := true, apart := false }
def FnExactClosureOfSaid : Prop := fnExactClosureOfRow.holds Try.pinned (OpenSpec.ofChange fnExactClosureOfSpec)

/-- ITS FALSE NEIGHBOUR: 'it returns false'. Refute it at one input. -/
def fnExactClosureOfWrong : ChangeSpec := { name := "fnExactClosureOf", fn := fun _ => fun
  | [d1, d2] => { results := [.lit (.bool false)], args := [d1, d2] }
  | _ => none }
def FnExactClosureOfWrongFalsely : Prop := fnExactClosureOfRow.holds Try.pinned (OpenSpec.ofChange fnExactClosureOfWrong)

/-- 'laws.FnExactIsBase': WHATEVER THE INPUT: true; the input reads as it did. -/
def fnExactIsBaseSpec : ChangeSpec := { name := "fnExactIsBase", fn := fun _ => fun
  | [d] => { results := [.lit (.bool true)], args := [d] }
  | _ => none }
def fnExactIsBaseRow : OpenClaim := { program := "ytdmpajkcpdjfbaa", sum := "8d82b0405c251b5dc7ef28d414f5eac494a763b5f225bf468186f8318b1afb5d", func := "loop.example/g01323/laws.FnExactIsBase", spec := "fnExactIsBase", unfollowed := true, recurses := true, apart := false }
def FnExactIsBaseSaid : Prop := fnExactIsBaseRow.holds Try.pinned (OpenSpec.ofChange fnExactIsBaseSpec)

/-- ITS FALSE NEIGHBOUR: 'it returns false'. Refute it at one input. -/
def fnExactIsBaseWrong : ChangeSpec := { name := "fnExactIsBase", fn := fun _ => fun
  | [d] => { results := [.lit (.bool false)], args := [d] }
  | _ => none }
def FnExactIsBaseWrongFalsely : Prop := fnExactIsBaseRow.holds Try.pinned (OpenSpec.ofChange fnExactIsBaseWrong)

/-- 'laws.FnExactCountGenerated': WHATEVER THE INPUT: true; the input reads as it did. -/
def fnExactCountGeneratedSpec : ChangeSpec := { name := "fnExactCountGenerated", fn := fun _ => fun
  | [d1, d2] => { results := [.lit (.bool true)], args := [d1, d2] }
  | _ => none }
def fnExactCountGeneratedRow : OpenClaim := { program := "ytdmpajkcpdjfbaa", sum := "8d82b0405c251b5dc7ef28d414f5eac494a763b5f225bf468186f8318b1afb5d", func := "loop.example/g01323/laws.FnExactCountGenerated", spec := "fnExactCountGenerated", unfollowed := true, recurses := true, apart := false }
def FnExactCountGeneratedSaid : Prop := fnExactCountGeneratedRow.holds Try.pinned (OpenSpec.ofChange fnExactCountGeneratedSpec)

/-- ITS FALSE NEIGHBOUR: 'it returns false'. Refute it at one input. -/
def fnExactCountGeneratedWrong : ChangeSpec := { name := "fnExactCountGenerated", fn := fun _ => fun
  | [d1, d2] => { results := [.lit (.bool false)], args := [d1, d2] }
  | _ => none }
def FnExactCountGeneratedWrongFalsely : Prop := fnExactCountGeneratedRow.holds Try.pinned (OpenSpec.ofChange fnExactCountGeneratedWrong)

/-- 'laws.FnExactIsGenerated': WHATEVER THE INPUT: true; the input reads as it did. -/
def fnExactIsGeneratedSpec : ChangeSpec := { name := "fnExactIsGenerated", fn := fun _ => fun
  | [d1, d2] => { results := [.lit (.bool true)], args := [d1, d2] }
  | _ => none }
def fnExactIsGeneratedRow : OpenClaim := { program := "ytdmpajkcpdjfbaa", sum := "8d82b0405c251b5dc7ef28d414f5eac494a763b5f225bf468186f8318b1afb5d", func := "loop.example/g01323/laws.FnExactIsGenerated", spec := "fnExactIsGenerated", unfollowed := true, recurses := true, apart := false }
def FnExactIsGeneratedSaid : Prop := fnExactIsGeneratedRow.holds Try.pinned (OpenSpec.ofChange fnExactIsGeneratedSpec)

/-- ITS FALSE NEIGHBOUR: 'it returns false'. Refute it at one input. -/
def fnExactIsGeneratedWrong : ChangeSpec := { name := "fnExactIsGenerated", fn := fun _ => fun
  | [d1, d2] => { results := [.lit (.bool false)], args := [d1, d2] }
  | _ => none }
def FnExactIsGeneratedWrongFalsely : Prop := fnExactIsGeneratedRow.holds Try.pinned (OpenSpec.ofChange fnExactIsGeneratedWrong)

/-- 'laws.FnExactDepthOf': WHATEVER THE INPUT: true; the input reads as it did. -/
def fnExactDepthOfSpec : ChangeSpec := { name := "fnExactDepthOf", fn := fun _ => fun
  | [d1, d2] => { results := [.lit (.bool true)], args := [d1, d2] }
  | _ => none }
def fnExactDepthOfRow : OpenClaim := { program := "ytdmpajkcpdjfbaa", sum := "8d82b0405c251b5dc7ef28d414f5eac494a763b5f225bf468186f8318b1afb5d", func := "loop.example/g01323/laws.FnExactDepthOf", spec := "fnExactDepthOf", unfollowed := true, recurses := true, apart := false }
def FnExactDepthOfSaid : Prop := fnExactDepthOfRow.holds Try.pinned (OpenSpec.ofChange fnExactDepthOfSpec)

/-- ITS FALSE NEIGHBOUR: 'it returns false'. Refute it at one input. -/
def fnExactDepthOfWrong : ChangeSpec := { name := "fnExactDepthOf", fn := fun _ => fun
  | [d1, d2] => { results := [.lit (.bool false)], args := [d1, d2] }
  | _ => none }
def FnExactDepthOfWrongFalsely : Prop := fnExactDepthOfRow.holds Try.pinned (OpenSpec.ofChange fnExactDepthOfWrong)

/-- 'laws.FnExactAreEqualLists': WHATEVER THE INPUT: true; the input reads as it did. -/
def fnExactAreEqualListsSpec : ChangeSpec := { name := "fnExactAreEqualLists", fn := fun _ => fun
  | [d1, d2, d3] => { results := [.lit (.bool true)], args := [d1, d2, d3] }
  | _ => none }
def fnExactAreEqualListsRow : OpenClaim := { program := "ytdmpajkcpdjfbaa", sum := "8d82b0405c251b5dc7ef28d414f5eac494a763b5f225bf468186f8318b1afb5d", func := "loop.example/g01323/laws.FnExactAreEqualLists", spec := "fnExactAreEqualLists", unfollowed := true, recurses := true, apart := false }
def FnExactAreEqualListsSaid : Prop := fnExactAreEqualListsRow.holds Try.pinned (OpenSpec.ofChange fnExactAreEqualListsSpec)

/-- ITS FALSE NEIGHBOUR: 'it returns false'. Refute it at one input. -/
def fnExactAreEqualListsWrong : ChangeSpec := { name := "fnExactAreEqualLists", fn := fun _ => fun
  | [d1, d2, d3] => { results := [.lit (.bool false)], args := [d1, d2, d3] }
  | _ => none }
def FnExactAreEqualListsWrongFalsely : Prop := fnExactAreEqualListsRow.holds Try.pinned (OpenSpec.ofChange fnExactAreEqualListsWrong)

/-- 'laws.FnExactGeneratedBy': WHATEVER THE INPUT: true; the input reads as it did. -/
def fnExactGeneratedBySpec : ChangeSpec := { name := "fnExactGeneratedBy", fn := fun _ => fun
  | [d1, d2] => { results := [.lit (.bool true)], args := [d1, d2] }
  | _ => none }
def fnExactGeneratedByRow : OpenClaim := { program := "ytdmpajkcpdjfbaa", sum := "8d82b0405c251b5dc7ef28d414f5eac494a763b5f225bf468186f8318b1afb5d", func := "loop.example/g01323/laws.FnExactGeneratedBy", spec := "fnExactGeneratedBy", unfollowed := true, recurses := true, apart := false }
def FnExactGeneratedBySaid : Prop := fnExactGeneratedByRow.holds Try.pinned (OpenSpec.ofChange fnExactGeneratedBySpec)

/-- ITS FALSE NEIGHBOUR: 'it returns false'. Refute it at one input. -/
def fnExactGeneratedByWrong : ChangeSpec := { name := "fnExactGeneratedBy", fn := fun _ => fun
  | [d1, d2] => { results := [.lit (.bool false)], args := [d1, d2] }
  | _ => none }
def FnExactGeneratedByWrongFalsely : Prop := fnExactGeneratedByRow.holds Try.pinned (OpenSpec.ofChange fnExactGeneratedByWrong)

/-- 'laws.FnExactDepthNumbers': WHATEVER THE INPUT: true; the input reads as it did. -/
def fnExactDepthNumbersSpec : ChangeSpec := { name := "fnExactDepthNumbers", fn := fun _ => fun
  | [d1, d2] => { results := [.lit (.bool true)], args := [d1, d2] }
  | _ => none }
def fnExactDepthNumbersRow : OpenClaim := { program := "ytdmpajkcpdjfbaa", sum := "8d82b0405c251b5dc7ef28d414f5eac494a763b5f225bf468186f8318b1afb5d", func := "loop.example/g01323/laws.FnExactDepthNumbers", spec := "fnExactDepthNumbers", unfollowed := true, recurses := true, apart := false }
def FnExactDepthNumbersSaid : Prop := fnExactDepthNumbersRow.holds Try.pinned (OpenSpec.ofChange fnExactDepthNumbersSpec)

/-- ITS FALSE NEIGHBOUR: 'it returns false'. Refute it at one input. -/
def fnExactDepthNumbersWrong : ChangeSpec := { name := "fnExactDepthNumbers", fn := fun _ => fun
  | [d1, d2] => { results := [.lit (.bool false)], args := [d1, d2] }
  | _ => none }
def FnExactDepthNumbersWrongFalsely : Prop := fnExactDepthNumbersRow.holds Try.pinned (OpenSpec.ofChange fnExactDepthNumbersWrong)

/-- 'laws.FnExactNeededOf': WHATEVER THE INPUT: true; the input reads as it did. -/
def fnExactNeededOfSpec : ChangeSpec := { name := "fnExactNeededOf", fn := fun _ => fun
  | [d1, d2] => { results := [.lit (.bool true)], args := [d1, d2] }
  | _ => none }
def fnExactNeededOfRow : OpenClaim := { program := "ytdmpajkcpdjfbaa", sum := "8d82b0405c251b5dc7ef28d414f5eac494a763b5f225bf468186f8318b1afb5d", func := "loop.example/g01323/laws.FnExactNeededOf", spec := "fnExactNeededOf", unfollowed := true, recurses := true, apart := false }
def FnExactNeededOfSaid : Prop := fnExactNeededOfRow.holds Try.pinned (OpenSpec.ofChange fnExactNeededOfSpec)

/-- ITS FALSE NEIGHBOUR: 'it returns false'. Refute it at one input. -/
def fnExactNeededOfWrong : ChangeSpec := { name := "fnExactNeededOf", fn := fun _ => fun
  | [d1, d2] => { results := [.lit (.bool false)], args := [d1, d2] }
  | _ => none }
def FnExactNeededOfWrongFalsely : Prop := fnExactNeededOfRow.holds Try.pinned (OpenSpec.ofChange fnExactNeededOfWrong)

/-- 'laws.FnExactLastStep': WHATEVER THE INPUT: true; the input reads as it did. -/
def fnExactLastStepSpec : ChangeSpec := { name := "fnExactLastStep", fn := fun _ => fun
  | [d1, d2] => { results := [.lit (.bool true)], args := [d1, d2] }
  | _ => none }
def fnExactLastStepRow : OpenClaim := { program := "ytdmpajkcpdjfbaa", sum := "8d82b0405c251b5dc7ef28d414f5eac494a763b5f225bf468186f8318b1afb5d", func := "loop.example/g01323/laws.FnExactLastStep", spec := "fnExactLastStep", unfollowed := true, recurses := true, apart := false }
def FnExactLastStepSaid : Prop := fnExactLastStepRow.holds Try.pinned (OpenSpec.ofChange fnExactLastStepSpec)

/-- ITS FALSE NEIGHBOUR: 'it returns false'. Refute it at one input. -/
def fnExactLastStepWrong : ChangeSpec := { name := "fnExactLastStep", fn := fun _ => fun
  | [d1, d2] => { results := [.lit (.bool false)], args := [d1, d2] }
  | _ => none }
def FnExactLastStepWrongFalsely : Prop := fnExactLastStepRow.holds Try.pinned (OpenSpec.ofChange fnExactLastStepWrong)

/- THE SECOND FORM. 'bulk': how many values and letters a reading holds, each counted each time it is reached (what is shared counts as often as it is met; a slice's spare places count too). A statement '..UptoSaid' is the law's where the arguments, and the package variables that the reading takes, are together of bulk at most 1048576: NARROWER than '..Said'. Prove '..Said' where nothing that the law and all that it calls make is longer than what came in: it says more and counts as full. Else prove '..UptoSaid'. A law counts once. -/
mutual
def uptoBulk {H : Type} : DataW H → Nat
  | .lit (.string bytes) => bytes.length + 1
  | .lit _ => 1
  | .nil => 1
  | .ptr d => uptoBulk d + 1
  | .slice elems spare => uptoBulkAll elems + uptoBulkAll spare + 1
  | .agg parts => uptoBulkAll parts + 1
  | .iface _ d => uptoBulk d + 1
  | .map entries => uptoBulkEntries entries + 1
  | .held _ => 1
def uptoBulkAll {H : Type} : List (DataW H) → Nat
  | [] => 0
  | d :: r => uptoBulk d + uptoBulkAll r
def uptoBulkEntries {H : Type} : List (Lit × DataW H) → Nat
  | [] => 0
  | x :: r => uptoBulkEntry x + uptoBulkEntries r
def uptoBulkEntry {H : Type} : Lit × DataW H → Nat
  | (.string bytes, d) => bytes.length + uptoBulk d + 1
  | (_, d) => uptoBulk d + 1
 end
def uptoSmall : (H : Type) → List (DataW H) → Bool := fun _ ds => decide (uptoBulkAll ds ≤ 1048576)
def OpenSpec.upto (s : _root_.Go.ChangeSpec) : _root_.Go.OpenSpec := { _root_.Go.OpenSpec.ofChange s with cond := some uptoSmall }

/-- 'laws.FnExactLeastTrueRows', WHERE WHAT IT READS IS OF BULK AT MOST 1048576: true; the input reads as it did. -/
def fnExactLeastTrueRowsUptoRow : OpenClaim := { program := "ytdmpajkcpdjfbaa", sum := "8d82b0405c251b5dc7ef28d414f5eac494a763b5f225bf468186f8318b1afb5d", func := "loop.example/g01323/laws.FnExactLeastTrueRows", spec := "fnExactLeastTrueRows", unfollowed := true, recurses := true, apart := false, narrowed := true }
def FnExactLeastTrueRowsUptoSaid : Prop := fnExactLeastTrueRowsUptoRow.holds Try.pinned (OpenSpec.upto fnExactLeastTrueRowsSpec)

/-- 'laws.FnExactLevelsOf', WHERE WHAT IT READS IS OF BULK AT MOST 1048576: true; the input reads as it did. -/
def fnExactLevelsOfUptoRow : OpenClaim := { program := "ytdmpajkcpdjfbaa", sum := "8d82b0405c251b5dc7ef28d414f5eac494a763b5f225bf468186f8318b1afb5d", func := "loop.example/g01323/laws.FnExactLevelsOf", spec := "fnExactLevelsOf", apart := false, narrowed := true }
def FnExactLevelsOfUptoSaid : Prop := fnExactLevelsOfUptoRow.holds Try.pinned (OpenSpec.upto fnExactLevelsOfSpec)

/-- 'laws.FnExactTransversalsOf', WHERE WHAT IT READS IS OF BULK AT MOST 1048576: true; the input reads as it did. -/
def fnExactTransversalsOfUptoRow : OpenClaim := { program := "ytdmpajkcpdjfbaa", sum := "8d82b0405c251b5dc7ef28d414f5eac494a763b5f225bf468186f8318b1afb5d", func := "loop.example/g01323/laws.FnExactTransversalsOf", spec := "fnExactTransversalsOf", unfollowed := true, recurses := true, apart := false, narrowed := true }
def FnExactTransversalsOfUptoSaid : Prop := fnExactTransversalsOfUptoRow.holds Try.pinned (OpenSpec.upto fnExactTransversalsOfSpec)

/-- 'laws.FnExactClosureOf', WHERE WHAT IT READS IS OF BULK AT MOST 1048576: true; the input reads as it did. -/
def fnExactClosureOfUptoRow : OpenClaim := { program := "ytdmpajkcpdjfbaa", sum := "8d82b0405c251b5dc7ef28d414f5eac494a763b5f225bf468186f8318b1afb5d", func := "loop.example/g01323/laws.FnExactClosureOf", spec := "fnExactClosureOf", unfollowed := true, recurses := true, apart := false, narrowed := true }
def FnExactClosureOfUptoSaid : Prop := fnExactClosureOfUptoRow.holds Try.pinned (OpenSpec.upto fnExactClosureOfSpec)

/-- 'laws.FnExactIsBase', WHERE WHAT IT READS IS OF BULK AT MOST 1048576: true; the input reads as it did. -/
def fnExactIsBaseUptoRow : OpenClaim := { program := "ytdmpajkcpdjfbaa", sum := "8d82b0405c251b5dc7ef28d414f5eac494a763b5f225bf468186f8318b1afb5d", func := "loop.example/g01323/laws.FnExactIsBase", spec := "fnExactIsBase", unfollowed := true, recurses := true, apart := false, narrowed := true }
def FnExactIsBaseUptoSaid : Prop := fnExactIsBaseUptoRow.holds Try.pinned (OpenSpec.upto fnExactIsBaseSpec)

/-- 'laws.FnExactCountGenerated', WHERE WHAT IT READS IS OF BULK AT MOST 1048576: true; the input reads as it did. -/
def fnExactCountGeneratedUptoRow : OpenClaim := { program := "ytdmpajkcpdjfbaa", sum := "8d82b0405c251b5dc7ef28d414f5eac494a763b5f225bf468186f8318b1afb5d", func := "loop.example/g01323/laws.FnExactCountGenerated", spec := "fnExactCountGenerated", unfollowed := true, recurses := true, apart := false, narrowed := true }
def FnExactCountGeneratedUptoSaid : Prop := fnExactCountGeneratedUptoRow.holds Try.pinned (OpenSpec.upto fnExactCountGeneratedSpec)

/-- 'laws.FnExactIsGenerated', WHERE WHAT IT READS IS OF BULK AT MOST 1048576: true; the input reads as it did. -/
def fnExactIsGeneratedUptoRow : OpenClaim := { program := "ytdmpajkcpdjfbaa", sum := "8d82b0405c251b5dc7ef28d414f5eac494a763b5f225bf468186f8318b1afb5d", func := "loop.example/g01323/laws.FnExactIsGenerated", spec := "fnExactIsGenerated", unfollowed := true, recurses := true, apart := false, narrowed := true }
def FnExactIsGeneratedUptoSaid : Prop := fnExactIsGeneratedUptoRow.holds Try.pinned (OpenSpec.upto fnExactIsGeneratedSpec)

/-- 'laws.FnExactDepthOf', WHERE WHAT IT READS IS OF BULK AT MOST 1048576: true; the input reads as it did. -/
def fnExactDepthOfUptoRow : OpenClaim := { program := "ytdmpajkcpdjfbaa", sum := "8d82b0405c251b5dc7ef28d414f5eac494a763b5f225bf468186f8318b1afb5d", func := "loop.example/g01323/laws.FnExactDepthOf", spec := "fnExactDepthOf", unfollowed := true, recurses := true, apart := false, narrowed := true }
def FnExactDepthOfUptoSaid : Prop := fnExactDepthOfUptoRow.holds Try.pinned (OpenSpec.upto fnExactDepthOfSpec)

/-- 'laws.FnExactAreEqualLists', WHERE WHAT IT READS IS OF BULK AT MOST 1048576: true; the input reads as it did. -/
def fnExactAreEqualListsUptoRow : OpenClaim := { program := "ytdmpajkcpdjfbaa", sum := "8d82b0405c251b5dc7ef28d414f5eac494a763b5f225bf468186f8318b1afb5d", func := "loop.example/g01323/laws.FnExactAreEqualLists", spec := "fnExactAreEqualLists", unfollowed := true, recurses := true, apart := false, narrowed := true }
def FnExactAreEqualListsUptoSaid : Prop := fnExactAreEqualListsUptoRow.holds Try.pinned (OpenSpec.upto fnExactAreEqualListsSpec)

/-- 'laws.FnExactGeneratedBy', WHERE WHAT IT READS IS OF BULK AT MOST 1048576: true; the input reads as it did. -/
def fnExactGeneratedByUptoRow : OpenClaim := { program := "ytdmpajkcpdjfbaa", sum := "8d82b0405c251b5dc7ef28d414f5eac494a763b5f225bf468186f8318b1afb5d", func := "loop.example/g01323/laws.FnExactGeneratedBy", spec := "fnExactGeneratedBy", unfollowed := true, recurses := true, apart := false, narrowed := true }
def FnExactGeneratedByUptoSaid : Prop := fnExactGeneratedByUptoRow.holds Try.pinned (OpenSpec.upto fnExactGeneratedBySpec)

/-- 'laws.FnExactDepthNumbers', WHERE WHAT IT READS IS OF BULK AT MOST 1048576: true; the input reads as it did. -/
def fnExactDepthNumbersUptoRow : OpenClaim := { program := "ytdmpajkcpdjfbaa", sum := "8d82b0405c251b5dc7ef28d414f5eac494a763b5f225bf468186f8318b1afb5d", func := "loop.example/g01323/laws.FnExactDepthNumbers", spec := "fnExactDepthNumbers", unfollowed := true, recurses := true, apart := false, narrowed := true }
def FnExactDepthNumbersUptoSaid : Prop := fnExactDepthNumbersUptoRow.holds Try.pinned (OpenSpec.upto fnExactDepthNumbersSpec)

/-- 'laws.FnExactNeededOf', WHERE WHAT IT READS IS OF BULK AT MOST 1048576: true; the input reads as it did. -/
def fnExactNeededOfUptoRow : OpenClaim := { program := "ytdmpajkcpdjfbaa", sum := "8d82b0405c251b5dc7ef28d414f5eac494a763b5f225bf468186f8318b1afb5d", func := "loop.example/g01323/laws.FnExactNeededOf", spec := "fnExactNeededOf", unfollowed := true, recurses := true, apart := false, narrowed := true }
def FnExactNeededOfUptoSaid : Prop := fnExactNeededOfUptoRow.holds Try.pinned (OpenSpec.upto fnExactNeededOfSpec)

/-- 'laws.FnExactLastStep', WHERE WHAT IT READS IS OF BULK AT MOST 1048576: true; the input reads as it did. -/
def fnExactLastStepUptoRow : OpenClaim := { program := "ytdmpajkcpdjfbaa", sum := "8d82b0405c251b5dc7ef28d414f5eac494a763b5f225bf468186f8318b1afb5d", func := "loop.example/g01323/laws.FnExactLastStep", spec := "fnExactLastStep", unfollowed := true, recurses := true, apart := false, narrowed := true }
def FnExactLastStepUptoSaid : Prop := fnExactLastStepUptoRow.holds Try.pinned (OpenSpec.upto fnExactLastStepSpec)

end Rows
end Go.Proofs.Ytdmpajkcpdjfbaa
