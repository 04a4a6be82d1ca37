/-
  No cell of these rows narrows 'for every input' (looked for: loops, veiled, ifaces, maps, wideKeys, modest, calm, conditions, laid).
  DERIVED. THE GIVEN ROWS OF THIS SEAT. 12 by the template 'for every input the law returns true; each argument reads behind the call as it read before'; 0 by the template 'total and deterministic' (their statements: YtiidbbbcalepjaaTotals.lean).
  GIVEN WITH THE SEED: the statements are not yours to turn. If you find one false, say at which input.
  Laid BY PROGRAM, IN A SANDBOX (cutbox-rows.mjs): the forced cells as the released guide's own fill.sh prints them over the translation 0eeab220be01beae… (all of the seat's roots in one cut). By AI agents, Wed Nov 11 2026. No macro, syntax, notation, axiom, sorry.
-/
import Derived.Test.YtiidbbbcalepjaaChecked
import GoSem.Claim
import GoSem.ClaimJoined
import GoSem.ClaimMapViews
import Derived.JoinedTies
import Derived.KernelRfl
namespace Go.Proofs.Ytiidbbbcalepjaa
/- THE CELL 'sum', in the pinned program and in every row, IS THE sha256 OF THE DUMP (.gsa) THAT YtiidbbbcalepjaaProg.lean LOADS. Nothing in Lean hashes anything: it is a label: what it is worth is what the hold of that sum in a sandbox is worth. -/
noncomputable def Try.pinned : Pinned := { name := "ytiidbbbcalepjaa", sum := "0eeab220be01beae69176086884857c7b0b2acc1784aca05476cff5f36328bd0", checked := Try.checked }
namespace Rows
def none {H : Type} : Left H := { results := [], args := [] }

/-- 'laws.FnExactProjectRelation': WHATEVER THE INPUT: true; the input reads as it did. -/
def fnExactProjectRelationSpec : ChangeSpec := { name := "fnExactProjectRelation", fn := fun _ => fun
  | [d1, d2] => { results := [.lit (.bool true)], args := [d1, d2] }
  | _ => none }
def fnExactProjectRelationRow : OpenClaim := { program := "ytiidbbbcalepjaa", sum := "0eeab220be01beae69176086884857c7b0b2acc1784aca05476cff5f36328bd0", func := "loop.example/g01323/laws.FnExactProjectRelation", spec := "fnExactProjectRelation", apart := false }
def FnExactProjectRelationSaid : Prop := fnExactProjectRelationRow.holds Try.pinned (OpenSpec.ofChange fnExactProjectRelationSpec)

/-- ITS FALSE NEIGHBOUR: 'it returns false'. Refute it at one input. -/
def fnExactProjectRelationWrong : ChangeSpec := { name := "fnExactProjectRelation", fn := fun _ => fun
  | [d1, d2] => { results := [.lit (.bool false)], args := [d1, d2] }
  | _ => none }
def FnExactProjectRelationWrongFalsely : Prop := fnExactProjectRelationRow.holds Try.pinned (OpenSpec.ofChange fnExactProjectRelationWrong)

/-- 'laws.FnExactGreatestFalseRows': WHATEVER THE INPUT: true; the input reads as it did. -/
def fnExactGreatestFalseRowsSpec : ChangeSpec := { name := "fnExactGreatestFalseRows", fn := fun _ => fun
  | [d] => { results := [.lit (.bool true)], args := [d] }
  | _ => none }
def fnExactGreatestFalseRowsRow : OpenClaim := { program := "ytiidbbbcalepjaa", sum := "0eeab220be01beae69176086884857c7b0b2acc1784aca05476cff5f36328bd0", func := "loop.example/g01323/laws.FnExactGreatestFalseRows", spec := "fnExactGreatestFalseRows", unfollowed := true, recurses := true, apart := false }
def FnExactGreatestFalseRowsSaid : Prop := fnExactGreatestFalseRowsRow.holds Try.pinned (OpenSpec.ofChange fnExactGreatestFalseRowsSpec)

/-- ITS FALSE NEIGHBOUR: 'it returns false'. Refute it at one input. -/
def fnExactGreatestFalseRowsWrong : ChangeSpec := { name := "fnExactGreatestFalseRows", fn := fun _ => fun
  | [d] => { results := [.lit (.bool false)], args := [d] }
  | _ => none }
def FnExactGreatestFalseRowsWrongFalsely : Prop := fnExactGreatestFalseRowsRow.holds Try.pinned (OpenSpec.ofChange fnExactGreatestFalseRowsWrong)

/-- 'laws.FnExactLeastTrueRows': WHATEVER THE INPUT: true; the input reads as it did. -/
def fnExactLeastTrueRowsSpec : ChangeSpec := { name := "fnExactLeastTrueRows", fn := fun _ => fun
  | [d] => { results := [.lit (.bool true)], args := [d] }
  | _ => none }
def fnExactLeastTrueRowsRow : OpenClaim := { program := "ytiidbbbcalepjaa", sum := "0eeab220be01beae69176086884857c7b0b2acc1784aca05476cff5f36328bd0", func := "loop.example/g01323/laws.FnExactLeastTrueRows", spec := "fnExactLeastTrueRows", unfollowed := true, recurses := true, apart := false }
def FnExactLeastTrueRowsSaid : Prop := fnExactLeastTrueRowsRow.holds Try.pinned (OpenSpec.ofChange fnExactLeastTrueRowsSpec)

/-- ITS FALSE NEIGHBOUR: 'it returns false'. Refute it at one input. -/
def fnExactLeastTrueRowsWrong : ChangeSpec := { name := "fnExactLeastTrueRows", fn := fun _ => fun
  | [d] => { results := [.lit (.bool false)], args := [d] }
  | _ => none }
def FnExactLeastTrueRowsWrongFalsely : Prop := fnExactLeastTrueRowsRow.holds Try.pinned (OpenSpec.ofChange fnExactLeastTrueRowsWrong)

/-- 'laws.FnExactLevelsOf': WHATEVER THE INPUT: true; the input reads as it did. -/
def fnExactLevelsOfSpec : ChangeSpec := { name := "fnExactLevelsOf", fn := fun _ => fun
  | [d] => { results := [.lit (.bool true)], args := [d] }
  | _ => none }
def fnExactLevelsOfRow : OpenClaim := { program := "ytiidbbbcalepjaa", sum := "0eeab220be01beae69176086884857c7b0b2acc1784aca05476cff5f36328bd0", func := "loop.example/g01323/laws.FnExactLevelsOf", spec := "fnExactLevelsOf", apart := false }
def FnExactLevelsOfSaid : Prop := fnExactLevelsOfRow.holds Try.pinned (OpenSpec.ofChange fnExactLevelsOfSpec)

/-- ITS FALSE NEIGHBOUR: 'it returns false'. Refute it at one input. -/
def fnExactLevelsOfWrong : ChangeSpec := { name := "fnExactLevelsOf", fn := fun _ => fun
  | [d] => { results := [.lit (.bool false)], args := [d] }
  | _ => none }
def FnExactLevelsOfWrongFalsely : Prop := fnExactLevelsOfRow.holds Try.pinned (OpenSpec.ofChange fnExactLevelsOfWrong)

/-- 'laws.FnExactTransversalsOf': WHATEVER THE INPUT: true; the input reads as it did. -/
def fnExactTransversalsOfSpec : ChangeSpec := { name := "fnExactTransversalsOf", fn := fun _ => fun
  | [d] => { results := [.lit (.bool true)], args := [d] }
  | _ => none }
def fnExactTransversalsOfRow : OpenClaim := { program := "ytiidbbbcalepjaa", sum := "0eeab220be01beae69176086884857c7b0b2acc1784aca05476cff5f36328bd0", func := "loop.example/g01323/laws.FnExactTransversalsOf", spec := "fnExactTransversalsOf", unfollowed := true, recurses := true, apart := false }
def FnExactTransversalsOfSaid : Prop := fnExactTransversalsOfRow.holds Try.pinned (OpenSpec.ofChange fnExactTransversalsOfSpec)

/-- ITS FALSE NEIGHBOUR: 'it returns false'. Refute it at one input. -/
def fnExactTransversalsOfWrong : ChangeSpec := { name := "fnExactTransversalsOf", fn := fun _ => fun
  | [d] => { results := [.lit (.bool false)], args := [d] }
  | _ => none }
def FnExactTransversalsOfWrongFalsely : Prop := fnExactTransversalsOfRow.holds Try.pinned (OpenSpec.ofChange fnExactTransversalsOfWrong)

/-- 'laws.FnExactClosureOf': WHATEVER THE INPUT: true; the input reads as it did. -/
def fnExactClosureOfSpec : ChangeSpec := { name := "fnExactClosureOf", fn := fun _ => fun
  | [d1, d2] => { results := [.lit (.bool true)], args := [d1, d2] }
  | _ => none }
def fnExactClosureOfRow : OpenClaim := { program := "ytiidbbbcalepjaa", sum := "0eeab220be01beae69176086884857c7b0b2acc1784aca05476cff5f36328bd0", func := "loop.example/g01323/laws.FnExactClosureOf", spec := "fnExactClosureOf", unfollowed := true, recurses := true, apart := false }
def FnExactClosureOfSaid : Prop := fnExactClosureOfRow.holds Try.pinned (OpenSpec.ofChange fnExactClosureOfSpec)

/-- ITS FALSE NEIGHBOUR: 'it returns false'. Refute it at one input. -/
def fnExactClosureOfWrong : ChangeSpec := { name := "fnExactClosureOf", fn := fun _ => fun
  | [d1, d2] => { results := [.lit (.bool false)], args := [d1, d2] }
  | _ => none }
def FnExactClosureOfWrongFalsely : Prop := fnExactClosureOfRow.holds Try.pinned (OpenSpec.ofChange fnExactClosureOfWrong)

/-- 'laws.FnExactVariablesOfFormula': WHATEVER THE INPUT: true; the input reads as it did. -/
def fnExactVariablesOfFormulaSpec : ChangeSpec := { name := "fnExactVariablesOfFormula", fn := fun _ => fun
  | [d] => { results := [.lit (.bool true)], args := [d] }
  | _ => none }
def fnExactVariablesOfFormulaRow : OpenClaim := { program := "ytiidbbbcalepjaa", sum := "0eeab220be01beae69176086884857c7b0b2acc1784aca05476cff5f36328bd0", func := "loop.example/g01323/laws.FnExactVariablesOfFormula", spec := "fnExactVariablesOfFormula", inPlace := ["internal/bytealg.IndexByteString", "internal/bytealg.IndexString"], recurses := true, named := ["internal/bytealg.MaxLen"], apart := false }
def FnExactVariablesOfFormulaSaid : Prop := fnExactVariablesOfFormulaRow.holds Try.pinned (OpenSpec.ofChange fnExactVariablesOfFormulaSpec)

/-- ITS FALSE NEIGHBOUR: 'it returns false'. Refute it at one input. -/
def fnExactVariablesOfFormulaWrong : ChangeSpec := { name := "fnExactVariablesOfFormula", fn := fun _ => fun
  | [d] => { results := [.lit (.bool false)], args := [d] }
  | _ => none }
def FnExactVariablesOfFormulaWrongFalsely : Prop := fnExactVariablesOfFormulaRow.holds Try.pinned (OpenSpec.ofChange fnExactVariablesOfFormulaWrong)

/-- 'laws.FnExactFunctionsKeeping': WHATEVER THE INPUT: true; the input reads as it did. -/
def fnExactFunctionsKeepingSpec : ChangeSpec := { name := "fnExactFunctionsKeeping", fn := fun _ => fun
  | [d1, d2] => { results := [.lit (.bool true)], args := [d1, d2] }
  | _ => none }
def fnExactFunctionsKeepingRow : OpenClaim := { program := "ytiidbbbcalepjaa", sum := "0eeab220be01beae69176086884857c7b0b2acc1784aca05476cff5f36328bd0", func := "loop.example/g01323/laws.FnExactFunctionsKeeping", spec := "fnExactFunctionsKeeping", unfollowed := true, recurses := true, apart := false }
def FnExactFunctionsKeepingSaid : Prop := fnExactFunctionsKeepingRow.holds Try.pinned (OpenSpec.ofChange fnExactFunctionsKeepingSpec)

/-- ITS FALSE NEIGHBOUR: 'it returns false'. Refute it at one input. -/
def fnExactFunctionsKeepingWrong : ChangeSpec := { name := "fnExactFunctionsKeeping", fn := fun _ => fun
  | [d1, d2] => { results := [.lit (.bool false)], args := [d1, d2] }
  | _ => none }
def FnExactFunctionsKeepingWrongFalsely : Prop := fnExactFunctionsKeepingRow.holds Try.pinned (OpenSpec.ofChange fnExactFunctionsKeepingWrong)

/-- 'laws.FnExactClassesOf': WHATEVER THE INPUT: true; the input reads as it did. -/
def fnExactClassesOfSpec : ChangeSpec := { name := "fnExactClassesOf", fn := fun _ => fun
  | [d] => { results := [.lit (.bool true)], args := [d] }
  | _ => none }
def fnExactClassesOfRow : OpenClaim := { program := "ytiidbbbcalepjaa", sum := "0eeab220be01beae69176086884857c7b0b2acc1784aca05476cff5f36328bd0", func := "loop.example/g01323/laws.FnExactClassesOf", spec := "fnExactClassesOf", unfollowed := true, recurses := true, apart := false }
def FnExactClassesOfSaid : Prop := fnExactClassesOfRow.holds Try.pinned (OpenSpec.ofChange fnExactClassesOfSpec)

/-- ITS FALSE NEIGHBOUR: 'it returns false'. Refute it at one input. -/
def fnExactClassesOfWrong : ChangeSpec := { name := "fnExactClassesOf", fn := fun _ => fun
  | [d] => { results := [.lit (.bool false)], args := [d] }
  | _ => none }
def FnExactClassesOfWrongFalsely : Prop := fnExactClassesOfRow.holds Try.pinned (OpenSpec.ofChange fnExactClassesOfWrong)

/-- 'laws.FnExactRelationsKept': WHATEVER THE INPUT: true; the input reads as it did. -/
def fnExactRelationsKeptSpec : ChangeSpec := { name := "fnExactRelationsKept", fn := fun _ => fun
  | [d1, d2] => { results := [.lit (.bool true)], args := [d1, d2] }
  | _ => none }
def fnExactRelationsKeptRow : OpenClaim := { program := "ytiidbbbcalepjaa", sum := "0eeab220be01beae69176086884857c7b0b2acc1784aca05476cff5f36328bd0", func := "loop.example/g01323/laws.FnExactRelationsKept", spec := "fnExactRelationsKept", unfollowed := true, recurses := true, apart := false }
def FnExactRelationsKeptSaid : Prop := fnExactRelationsKeptRow.holds Try.pinned (OpenSpec.ofChange fnExactRelationsKeptSpec)

/-- ITS FALSE NEIGHBOUR: 'it returns false'. Refute it at one input. -/
def fnExactRelationsKeptWrong : ChangeSpec := { name := "fnExactRelationsKept", fn := fun _ => fun
  | [d1, d2] => { results := [.lit (.bool false)], args := [d1, d2] }
  | _ => none }
def FnExactRelationsKeptWrongFalsely : Prop := fnExactRelationsKeptRow.holds Try.pinned (OpenSpec.ofChange fnExactRelationsKeptWrong)

/-- 'laws.FnExactIsBase': WHATEVER THE INPUT: true; the input reads as it did. -/
def fnExactIsBaseSpec : ChangeSpec := { name := "fnExactIsBase", fn := fun _ => fun
  | [d] => { results := [.lit (.bool true)], args := [d] }
  | _ => none }
def fnExactIsBaseRow : OpenClaim := { program := "ytiidbbbcalepjaa", sum := "0eeab220be01beae69176086884857c7b0b2acc1784aca05476cff5f36328bd0", func := "loop.example/g01323/laws.FnExactIsBase", spec := "fnExactIsBase", unfollowed := true, recurses := true, apart := false }
def FnExactIsBaseSaid : Prop := fnExactIsBaseRow.holds Try.pinned (OpenSpec.ofChange fnExactIsBaseSpec)

/-- ITS FALSE NEIGHBOUR: 'it returns false'. Refute it at one input. -/
def fnExactIsBaseWrong : ChangeSpec := { name := "fnExactIsBase", fn := fun _ => fun
  | [d] => { results := [.lit (.bool false)], args := [d] }
  | _ => none }
def FnExactIsBaseWrongFalsely : Prop := fnExactIsBaseRow.holds Try.pinned (OpenSpec.ofChange fnExactIsBaseWrong)

/-- 'laws.FnExactCountGenerated': WHATEVER THE INPUT: true; the input reads as it did. -/
def fnExactCountGeneratedSpec : ChangeSpec := { name := "fnExactCountGenerated", fn := fun _ => fun
  | [d1, d2] => { results := [.lit (.bool true)], args := [d1, d2] }
  | _ => none }
def fnExactCountGeneratedRow : OpenClaim := { program := "ytiidbbbcalepjaa", sum := "0eeab220be01beae69176086884857c7b0b2acc1784aca05476cff5f36328bd0", func := "loop.example/g01323/laws.FnExactCountGenerated", spec := "fnExactCountGenerated", unfollowed := true, recurses := true, apart := false }
def FnExactCountGeneratedSaid : Prop := fnExactCountGeneratedRow.holds Try.pinned (OpenSpec.ofChange fnExactCountGeneratedSpec)

/-- ITS FALSE NEIGHBOUR: 'it returns false'. Refute it at one input. -/
def fnExactCountGeneratedWrong : ChangeSpec := { name := "fnExactCountGenerated", fn := fun _ => fun
  | [d1, d2] => { results := [.lit (.bool false)], args := [d1, d2] }
  | _ => none }
def FnExactCountGeneratedWrongFalsely : Prop := fnExactCountGeneratedRow.holds Try.pinned (OpenSpec.ofChange fnExactCountGeneratedWrong)

/- THE SECOND FORM. 'bulk': how many values and letters a reading holds, each counted each time it is reached (what is shared counts as often as it is met; a slice's spare places count too). A statement '..UptoSaid' is the law's where the arguments, and the package variables that the reading takes, are together of bulk at most 1048576: NARROWER than '..Said'. Prove '..Said' where nothing that the law and all that it calls make is longer than what came in: it says more and counts as full. Else prove '..UptoSaid'. A law counts once. -/
mutual
def uptoBulk {H : Type} : DataW H → Nat
  | .lit (.string bytes) => bytes.length + 1
  | .lit _ => 1
  | .nil => 1
  | .ptr d => uptoBulk d + 1
  | .slice elems spare => uptoBulkAll elems + uptoBulkAll spare + 1
  | .agg parts => uptoBulkAll parts + 1
  | .iface _ d => uptoBulk d + 1
  | .map entries => uptoBulkEntries entries + 1
  | .held _ => 1
def uptoBulkAll {H : Type} : List (DataW H) → Nat
  | [] => 0
  | d :: r => uptoBulk d + uptoBulkAll r
def uptoBulkEntries {H : Type} : List (Lit × DataW H) → Nat
  | [] => 0
  | x :: r => uptoBulkEntry x + uptoBulkEntries r
def uptoBulkEntry {H : Type} : Lit × DataW H → Nat
  | (.string bytes, d) => bytes.length + uptoBulk d + 1
  | (_, d) => uptoBulk d + 1
 end
def uptoSmall : (H : Type) → List (DataW H) → Bool := fun _ ds => decide (uptoBulkAll ds ≤ 1048576)
def OpenSpec.upto (s : _root_.Go.ChangeSpec) : _root_.Go.OpenSpec := { _root_.Go.OpenSpec.ofChange s with cond := some uptoSmall }

/-- 'laws.FnExactProjectRelation', WHERE WHAT IT READS IS OF BULK AT MOST 1048576: true; the input reads as it did. -/
def fnExactProjectRelationUptoRow : OpenClaim := { program := "ytiidbbbcalepjaa", sum := "0eeab220be01beae69176086884857c7b0b2acc1784aca05476cff5f36328bd0", func := "loop.example/g01323/laws.FnExactProjectRelation", spec := "fnExactProjectRelation", apart := false, narrowed := true }
def FnExactProjectRelationUptoSaid : Prop := fnExactProjectRelationUptoRow.holds Try.pinned (OpenSpec.upto fnExactProjectRelationSpec)

/-- 'laws.FnExactGreatestFalseRows', WHERE WHAT IT READS IS OF BULK AT MOST 1048576: true; the input reads as it did. -/
def fnExactGreatestFalseRowsUptoRow : OpenClaim := { program := "ytiidbbbcalepjaa", sum := "0eeab220be01beae69176086884857c7b0b2acc1784aca05476cff5f36328bd0", func := "loop.example/g01323/laws.FnExactGreatestFalseRows", spec := "fnExactGreatestFalseRows", unfollowed := true, recurses := true, apart := false, narrowed := true }
def FnExactGreatestFalseRowsUptoSaid : Prop := fnExactGreatestFalseRowsUptoRow.holds Try.pinned (OpenSpec.upto fnExactGreatestFalseRowsSpec)

/-- 'laws.FnExactLeastTrueRows', WHERE WHAT IT READS IS OF BULK AT MOST 1048576: true; the input reads as it did. -/
def fnExactLeastTrueRowsUptoRow : OpenClaim := { program := "ytiidbbbcalepjaa", sum := "0eeab220be01beae69176086884857c7b0b2acc1784aca05476cff5f36328bd0", func := "loop.example/g01323/laws.FnExactLeastTrueRows", spec := "fnExactLeastTrueRows", unfollowed := true, recurses := true, apart := false, narrowed := true }
def FnExactLeastTrueRowsUptoSaid : Prop := fnExactLeastTrueRowsUptoRow.holds Try.pinned (OpenSpec.upto fnExactLeastTrueRowsSpec)

/-- 'laws.FnExactLevelsOf', WHERE WHAT IT READS IS OF BULK AT MOST 1048576: true; the input reads as it did. -/
def fnExactLevelsOfUptoRow : OpenClaim := { program := "ytiidbbbcalepjaa", sum := "0eeab220be01beae69176086884857c7b0b2acc1784aca05476cff5f36328bd0", func := "loop.example/g01323/laws.FnExactLevelsOf", spec := "fnExactLevelsOf", apart := false, narrowed := true }
def FnExactLevelsOfUptoSaid : Prop := fnExactLevelsOfUptoRow.holds Try.pinned (OpenSpec.upto fnExactLevelsOfSpec)

/-- 'laws.FnExactTransversalsOf', WHERE WHAT IT READS IS OF BULK AT MOST 1048576: true; the input reads as it did. -/
def fnExactTransversalsOfUptoRow : OpenClaim := { program := "ytiidbbbcalepjaa", sum := "0eeab220be01beae69176086884857c7b0b2acc1784aca05476cff5f36328bd0", func := "loop.example/g01323/laws.FnExactTransversalsOf", spec := "fnExactTransversalsOf", unfollowed := true, recurses := true, apart := false, narrowed := true }
def FnExactTransversalsOfUptoSaid : Prop := fnExactTransversalsOfUptoRow.holds Try.pinned (OpenSpec.upto fnExactTransversalsOfSpec)

/-- 'laws.FnExactClosureOf', WHERE WHAT IT READS IS OF BULK AT MOST 1048576: true; the input reads as it did. -/
def fnExactClosureOfUptoRow : OpenClaim := { program := "ytiidbbbcalepjaa", sum := "0eeab220be01beae69176086884857c7b0b2acc1784aca05476cff5f36328bd0", func := "loop.example/g01323/laws.FnExactClosureOf", spec := "fnExactClosureOf", unfollowed := true, recurses := true, apart := false, narrowed := true }
def FnExactClosureOfUptoSaid : Prop := fnExactClosureOfUptoRow.holds Try.pinned (OpenSpec.upto fnExactClosureOfSpec)

/-- 'laws.FnExactVariablesOfFormula', WHERE WHAT IT READS IS OF BULK AT MOST 1048576: true; the input reads as it did. -/
def fnExactVariablesOfFormulaUptoRow : OpenClaim := { program := "ytiidbbbcalepjaa", sum := "0eeab220be01beae69176086884857c7b0b2acc1784aca05476cff5f36328bd0", func := "loop.example/g01323/laws.FnExactVariablesOfFormula", spec := "fnExactVariablesOfFormula", inPlace := ["internal/bytealg.IndexByteString", "internal/bytealg.IndexString"], recurses := true, named := ["internal/bytealg.MaxLen"], apart := false, narrowed := true }
def FnExactVariablesOfFormulaUptoSaid : Prop := fnExactVariablesOfFormulaUptoRow.holds Try.pinned (OpenSpec.upto fnExactVariablesOfFormulaSpec)

/-- 'laws.FnExactFunctionsKeeping', WHERE WHAT IT READS IS OF BULK AT MOST 1048576: true; the input reads as it did. -/
def fnExactFunctionsKeepingUptoRow : OpenClaim := { program := "ytiidbbbcalepjaa", sum := "0eeab220be01beae69176086884857c7b0b2acc1784aca05476cff5f36328bd0", func := "loop.example/g01323/laws.FnExactFunctionsKeeping", spec := "fnExactFunctionsKeeping", unfollowed := true, recurses := true, apart := false, narrowed := true }
def FnExactFunctionsKeepingUptoSaid : Prop := fnExactFunctionsKeepingUptoRow.holds Try.pinned (OpenSpec.upto fnExactFunctionsKeepingSpec)

/-- 'laws.FnExactClassesOf', WHERE WHAT IT READS IS OF BULK AT MOST 1048576: true; the input reads as it did. -/
def fnExactClassesOfUptoRow : OpenClaim := { program := "ytiidbbbcalepjaa", sum := "0eeab220be01beae69176086884857c7b0b2acc1784aca05476cff5f36328bd0", func := "loop.example/g01323/laws.FnExactClassesOf", spec := "fnExactClassesOf", unfollowed := true, recurses := true, apart := false, narrowed := true }
def FnExactClassesOfUptoSaid : Prop := fnExactClassesOfUptoRow.holds Try.pinned (OpenSpec.upto fnExactClassesOfSpec)

/-- 'laws.FnExactRelationsKept', WHERE WHAT IT READS IS OF BULK AT MOST 1048576: true; the input reads as it did. -/
def fnExactRelationsKeptUptoRow : OpenClaim := { program := "ytiidbbbcalepjaa", sum := "0eeab220be01beae69176086884857c7b0b2acc1784aca05476cff5f36328bd0", func := "loop.example/g01323/laws.FnExactRelationsKept", spec := "fnExactRelationsKept", unfollowed := true, recurses := true, apart := false, narrowed := true }
def FnExactRelationsKeptUptoSaid : Prop := fnExactRelationsKeptUptoRow.holds Try.pinned (OpenSpec.upto fnExactRelationsKeptSpec)

/-- 'laws.FnExactIsBase', WHERE WHAT IT READS IS OF BULK AT MOST 1048576: true; the input reads as it did. -/
def fnExactIsBaseUptoRow : OpenClaim := { program := "ytiidbbbcalepjaa", sum := "0eeab220be01beae69176086884857c7b0b2acc1784aca05476cff5f36328bd0", func := "loop.example/g01323/laws.FnExactIsBase", spec := "fnExactIsBase", unfollowed := true, recurses := true, apart := false, narrowed := true }
def FnExactIsBaseUptoSaid : Prop := fnExactIsBaseUptoRow.holds Try.pinned (OpenSpec.upto fnExactIsBaseSpec)

/-- 'laws.FnExactCountGenerated', WHERE WHAT IT READS IS OF BULK AT MOST 1048576: true; the input reads as it did. -/
def fnExactCountGeneratedUptoRow : OpenClaim := { program := "ytiidbbbcalepjaa", sum := "0eeab220be01beae69176086884857c7b0b2acc1784aca05476cff5f36328bd0", func := "loop.example/g01323/laws.FnExactCountGenerated", spec := "fnExactCountGenerated", unfollowed := true, recurses := true, apart := false, narrowed := true }
def FnExactCountGeneratedUptoSaid : Prop := fnExactCountGeneratedUptoRow.holds Try.pinned (OpenSpec.upto fnExactCountGeneratedSpec)

end Rows
end Go.Proofs.Ytiidbbbcalepjaa
