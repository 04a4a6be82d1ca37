/-
  No cell of these rows narrows 'for every input' (looked for: loops, veiled, ifaces, maps, wideKeys, modest, calm, conditions, laid).
  DERIVED. THE GIVEN ROWS OF THIS SEAT. 6 by the template 'for every input the law returns true; each argument reads behind the call as it read before'; 0 by the template 'total and deterministic' (their statements: YtadmbjneagdfdabTotals.lean).
  GIVEN WITH THE SEED: the statements are not yours to turn. If you find one false, say at which input.
  Laid BY PROGRAM, IN A SANDBOX (cutbox-rows.mjs): the forced cells as the released guide's own fill.sh prints them over the translation c26f54b1d858fc53… (all of the seat's roots in one cut). By AI agents, Wed Nov 11 2026. No macro, syntax, notation, axiom, sorry.
-/
import Derived.Test.YtadmbjneagdfdabChecked
import GoSem.Claim
import GoSem.ClaimJoined
import GoSem.ClaimMapViews
import Derived.JoinedTies
import Derived.KernelRfl
namespace Go.Proofs.Ytadmbjneagdfdab
/- THE CELL 'sum', in the pinned program and in every row, IS THE sha256 OF THE DUMP (.gsa) THAT YtadmbjneagdfdabProg.lean LOADS. Nothing in Lean hashes anything: it is a label: what it is worth is what the hold of that sum in a sandbox is worth. -/
noncomputable def Try.pinned : Pinned := { name := "ytadmbjneagdfdab", sum := "c26f54b1d858fc53948401ad9651f0ce873d51aa9d7a9d8e20ecf52a34ba71bf", checked := Try.checked }
namespace Rows
def none {H : Type} : Left H := { results := [], args := [] }

/-- 'laws.FnExactIdentifyPlaces': WHATEVER THE INPUT: true; the input reads as it did. -/
def fnExactIdentifyPlacesSpec : ChangeSpec := { name := "fnExactIdentifyPlaces", fn := fun _ => fun
  | [d1, d2, d3] => { results := [.lit (.bool true)], args := [d1, d2, d3] }
  | _ => none }
def fnExactIdentifyPlacesRow : OpenClaim := { program := "ytadmbjneagdfdab", sum := "c26f54b1d858fc53948401ad9651f0ce873d51aa9d7a9d8e20ecf52a34ba71bf", func := "loop.example/g01323/laws.FnExactIdentifyPlaces", spec := "fnExactIdentifyPlaces", unfollowed := true, recurses := true, apart := false }
def FnExactIdentifyPlacesSaid : Prop := fnExactIdentifyPlacesRow.holds Try.pinned (OpenSpec.ofChange fnExactIdentifyPlacesSpec)

/-- ITS FALSE NEIGHBOUR: 'it returns false'. Refute it at one input. -/
def fnExactIdentifyPlacesWrong : ChangeSpec := { name := "fnExactIdentifyPlaces", fn := fun _ => fun
  | [d1, d2, d3] => { results := [.lit (.bool false)], args := [d1, d2, d3] }
  | _ => none }
def FnExactIdentifyPlacesWrongFalsely : Prop := fnExactIdentifyPlacesRow.holds Try.pinned (OpenSpec.ofChange fnExactIdentifyPlacesWrong)

/-- 'laws.FnExactFuncOfRows': WHATEVER THE INPUT: true; the input reads as it did. -/
def fnExactFuncOfRowsSpec : ChangeSpec := { name := "fnExactFuncOfRows", fn := fun _ => fun
  | [d1, d2] => { results := [.lit (.bool true)], args := [d1, d2] }
  | _ => none }
def fnExactFuncOfRowsRow : OpenClaim := { program := "ytadmbjneagdfdab", sum := "c26f54b1d858fc53948401ad9651f0ce873d51aa9d7a9d8e20ecf52a34ba71bf", func := "loop.example/g01323/laws.FnExactFuncOfRows", spec := "fnExactFuncOfRows", unfollowed := true, recurses := true, apart := false }
def FnExactFuncOfRowsSaid : Prop := fnExactFuncOfRowsRow.holds Try.pinned (OpenSpec.ofChange fnExactFuncOfRowsSpec)

/-- ITS FALSE NEIGHBOUR: 'it returns false'. Refute it at one input. -/
def fnExactFuncOfRowsWrong : ChangeSpec := { name := "fnExactFuncOfRows", fn := fun _ => fun
  | [d1, d2] => { results := [.lit (.bool false)], args := [d1, d2] }
  | _ => none }
def FnExactFuncOfRowsWrongFalsely : Prop := fnExactFuncOfRowsRow.holds Try.pinned (OpenSpec.ofChange fnExactFuncOfRowsWrong)

/-- 'laws.FnExactSeparatingDegree': WHATEVER THE INPUT: true; the input reads as it did. -/
def fnExactSeparatingDegreeSpec : ChangeSpec := { name := "fnExactSeparatingDegree", fn := fun _ => fun
  | [d1, d2] => { results := [.lit (.bool true)], args := [d1, d2] }
  | _ => none }
def fnExactSeparatingDegreeRow : OpenClaim := { program := "ytadmbjneagdfdab", sum := "c26f54b1d858fc53948401ad9651f0ce873d51aa9d7a9d8e20ecf52a34ba71bf", func := "loop.example/g01323/laws.FnExactSeparatingDegree", spec := "fnExactSeparatingDegree", recurses := true, apart := false }
def FnExactSeparatingDegreeSaid : Prop := fnExactSeparatingDegreeRow.holds Try.pinned (OpenSpec.ofChange fnExactSeparatingDegreeSpec)

/-- ITS FALSE NEIGHBOUR: 'it returns false'. Refute it at one input. -/
def fnExactSeparatingDegreeWrong : ChangeSpec := { name := "fnExactSeparatingDegree", fn := fun _ => fun
  | [d1, d2] => { results := [.lit (.bool false)], args := [d1, d2] }
  | _ => none }
def FnExactSeparatingDegreeWrongFalsely : Prop := fnExactSeparatingDegreeRow.holds Try.pinned (OpenSpec.ofChange fnExactSeparatingDegreeWrong)

/-- 'laws.FnExactMonotoneFuncs': WHATEVER THE INPUT: true; the input reads as it did. -/
def fnExactMonotoneFuncsSpec : ChangeSpec := { name := "fnExactMonotoneFuncs", fn := fun _ => fun
  | [d] => { results := [.lit (.bool true)], args := [d] }
  | _ => none }
def fnExactMonotoneFuncsRow : OpenClaim := { program := "ytadmbjneagdfdab", sum := "c26f54b1d858fc53948401ad9651f0ce873d51aa9d7a9d8e20ecf52a34ba71bf", func := "loop.example/g01323/laws.FnExactMonotoneFuncs", spec := "fnExactMonotoneFuncs", unfollowed := true, recurses := true, apart := false }
def FnExactMonotoneFuncsSaid : Prop := fnExactMonotoneFuncsRow.holds Try.pinned (OpenSpec.ofChange fnExactMonotoneFuncsSpec)

/-- ITS FALSE NEIGHBOUR: 'it returns false'. Refute it at one input. -/
def fnExactMonotoneFuncsWrong : ChangeSpec := { name := "fnExactMonotoneFuncs", fn := fun _ => fun
  | [d] => { results := [.lit (.bool false)], args := [d] }
  | _ => none }
def FnExactMonotoneFuncsWrongFalsely : Prop := fnExactMonotoneFuncsRow.holds Try.pinned (OpenSpec.ofChange fnExactMonotoneFuncsWrong)

/-- 'laws.FnExactKeepsRelation': WHATEVER THE INPUT: true; the input reads as it did. -/
def fnExactKeepsRelationSpec : ChangeSpec := { name := "fnExactKeepsRelation", fn := fun _ => fun
  | [d1, d2] => { results := [.lit (.bool true)], args := [d1, d2] }
  | _ => none }
def fnExactKeepsRelationRow : OpenClaim := { program := "ytadmbjneagdfdab", sum := "c26f54b1d858fc53948401ad9651f0ce873d51aa9d7a9d8e20ecf52a34ba71bf", func := "loop.example/g01323/laws.FnExactKeepsRelation", spec := "fnExactKeepsRelation", unfollowed := true, recurses := true, apart := false }
def FnExactKeepsRelationSaid : Prop := fnExactKeepsRelationRow.holds Try.pinned (OpenSpec.ofChange fnExactKeepsRelationSpec)

/-- ITS FALSE NEIGHBOUR: 'it returns false'. Refute it at one input. -/
def fnExactKeepsRelationWrong : ChangeSpec := { name := "fnExactKeepsRelation", fn := fun _ => fun
  | [d1, d2] => { results := [.lit (.bool false)], args := [d1, d2] }
  | _ => none }
def FnExactKeepsRelationWrongFalsely : Prop := fnExactKeepsRelationRow.holds Try.pinned (OpenSpec.ofChange fnExactKeepsRelationWrong)

/-- 'laws.FnExactFuncOfLevels': WHATEVER THE INPUT: true; the input reads as it did. -/
def fnExactFuncOfLevelsSpec : ChangeSpec := { name := "fnExactFuncOfLevels", fn := fun _ => fun
  | [d] => { results := [.lit (.bool true)], args := [d] }
  | _ => none }
def fnExactFuncOfLevelsRow : OpenClaim := { program := "ytadmbjneagdfdab", sum := "c26f54b1d858fc53948401ad9651f0ce873d51aa9d7a9d8e20ecf52a34ba71bf", func := "loop.example/g01323/laws.FnExactFuncOfLevels", spec := "fnExactFuncOfLevels", unfollowed := true, recurses := true, apart := false }
def FnExactFuncOfLevelsSaid : Prop := fnExactFuncOfLevelsRow.holds Try.pinned (OpenSpec.ofChange fnExactFuncOfLevelsSpec)

/-- ITS FALSE NEIGHBOUR: 'it returns false'. Refute it at one input. -/
def fnExactFuncOfLevelsWrong : ChangeSpec := { name := "fnExactFuncOfLevels", fn := fun _ => fun
  | [d] => { results := [.lit (.bool false)], args := [d] }
  | _ => none }
def FnExactFuncOfLevelsWrongFalsely : Prop := fnExactFuncOfLevelsRow.holds Try.pinned (OpenSpec.ofChange fnExactFuncOfLevelsWrong)

/- THE SECOND FORM. 'bulk': how many values and letters a reading holds, each counted each time it is reached (what is shared counts as often as it is met; a slice's spare places count too). A statement '..UptoSaid' is the law's where the arguments, and the package variables that the reading takes, are together of bulk at most 1048576: NARROWER than '..Said'. Prove '..Said' where nothing that the law and all that it calls make is longer than what came in: it says more and counts as full. Else prove '..UptoSaid'. A law counts once. -/
mutual
def uptoBulk {H : Type} : DataW H → Nat
  | .lit (.string bytes) => bytes.length + 1
  | .lit _ => 1
  | .nil => 1
  | .ptr d => uptoBulk d + 1
  | .slice elems spare => uptoBulkAll elems + uptoBulkAll spare + 1
  | .agg parts => uptoBulkAll parts + 1
  | .iface _ d => uptoBulk d + 1
  | .map entries => uptoBulkEntries entries + 1
  | .held _ => 1
def uptoBulkAll {H : Type} : List (DataW H) → Nat
  | [] => 0
  | d :: r => uptoBulk d + uptoBulkAll r
def uptoBulkEntries {H : Type} : List (Lit × DataW H) → Nat
  | [] => 0
  | x :: r => uptoBulkEntry x + uptoBulkEntries r
def uptoBulkEntry {H : Type} : Lit × DataW H → Nat
  | (.string bytes, d) => bytes.length + uptoBulk d + 1
  | (_, d) => uptoBulk d + 1
 end
def uptoSmall : (H : Type) → List (DataW H) → Bool := fun _ ds => decide (uptoBulkAll ds ≤ 1048576)
def OpenSpec.upto (s : _root_.Go.ChangeSpec) : _root_.Go.OpenSpec := { _root_.Go.OpenSpec.ofChange s with cond := some uptoSmall }

/-- 'laws.FnExactIdentifyPlaces', WHERE WHAT IT READS IS OF BULK AT MOST 1048576: true; the input reads as it did. -/
def fnExactIdentifyPlacesUptoRow : OpenClaim := { program := "ytadmbjneagdfdab", sum := "c26f54b1d858fc53948401ad9651f0ce873d51aa9d7a9d8e20ecf52a34ba71bf", func := "loop.example/g01323/laws.FnExactIdentifyPlaces", spec := "fnExactIdentifyPlaces", unfollowed := true, recurses := true, apart := false, narrowed := true }
def FnExactIdentifyPlacesUptoSaid : Prop := fnExactIdentifyPlacesUptoRow.holds Try.pinned (OpenSpec.upto fnExactIdentifyPlacesSpec)

/-- 'laws.FnExactFuncOfRows', WHERE WHAT IT READS IS OF BULK AT MOST 1048576: true; the input reads as it did. -/
def fnExactFuncOfRowsUptoRow : OpenClaim := { program := "ytadmbjneagdfdab", sum := "c26f54b1d858fc53948401ad9651f0ce873d51aa9d7a9d8e20ecf52a34ba71bf", func := "loop.example/g01323/laws.FnExactFuncOfRows", spec := "fnExactFuncOfRows", unfollowed := true, recurses := true, apart := false, narrowed := true }
def FnExactFuncOfRowsUptoSaid : Prop := fnExactFuncOfRowsUptoRow.holds Try.pinned (OpenSpec.upto fnExactFuncOfRowsSpec)

/-- 'laws.FnExactSeparatingDegree', WHERE WHAT IT READS IS OF BULK AT MOST 1048576: true; the input reads as it did. -/
def fnExactSeparatingDegreeUptoRow : OpenClaim := { program := "ytadmbjneagdfdab", sum := "c26f54b1d858fc53948401ad9651f0ce873d51aa9d7a9d8e20ecf52a34ba71bf", func := "loop.example/g01323/laws.FnExactSeparatingDegree", spec := "fnExactSeparatingDegree", recurses := true, apart := false, narrowed := true }
def FnExactSeparatingDegreeUptoSaid : Prop := fnExactSeparatingDegreeUptoRow.holds Try.pinned (OpenSpec.upto fnExactSeparatingDegreeSpec)

/-- 'laws.FnExactMonotoneFuncs', WHERE WHAT IT READS IS OF BULK AT MOST 1048576: true; the input reads as it did. -/
def fnExactMonotoneFuncsUptoRow : OpenClaim := { program := "ytadmbjneagdfdab", sum := "c26f54b1d858fc53948401ad9651f0ce873d51aa9d7a9d8e20ecf52a34ba71bf", func := "loop.example/g01323/laws.FnExactMonotoneFuncs", spec := "fnExactMonotoneFuncs", unfollowed := true, recurses := true, apart := false, narrowed := true }
def FnExactMonotoneFuncsUptoSaid : Prop := fnExactMonotoneFuncsUptoRow.holds Try.pinned (OpenSpec.upto fnExactMonotoneFuncsSpec)

/-- 'laws.FnExactKeepsRelation', WHERE WHAT IT READS IS OF BULK AT MOST 1048576: true; the input reads as it did. -/
def fnExactKeepsRelationUptoRow : OpenClaim := { program := "ytadmbjneagdfdab", sum := "c26f54b1d858fc53948401ad9651f0ce873d51aa9d7a9d8e20ecf52a34ba71bf", func := "loop.example/g01323/laws.FnExactKeepsRelation", spec := "fnExactKeepsRelation", unfollowed := true, recurses := true, apart := false, narrowed := true }
def FnExactKeepsRelationUptoSaid : Prop := fnExactKeepsRelationUptoRow.holds Try.pinned (OpenSpec.upto fnExactKeepsRelationSpec)

/-- 'laws.FnExactFuncOfLevels', WHERE WHAT IT READS IS OF BULK AT MOST 1048576: true; the input reads as it did. -/
def fnExactFuncOfLevelsUptoRow : OpenClaim := { program := "ytadmbjneagdfdab", sum := "c26f54b1d858fc53948401ad9651f0ce873d51aa9d7a9d8e20ecf52a34ba71bf", func := "loop.example/g01323/laws.FnExactFuncOfLevels", spec := "fnExactFuncOfLevels", unfollowed := true, recurses := true, apart := false, narrowed := true }
def FnExactFuncOfLevelsUptoSaid : Prop := fnExactFuncOfLevelsUptoRow.holds Try.pinned (OpenSpec.upto fnExactFuncOfLevelsSpec)

end Rows
end Go.Proofs.Ytadmbjneagdfdab
