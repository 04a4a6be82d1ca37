/-
  No cell of these rows narrows 'for every input' (looked for: loops, veiled, ifaces, maps, wideKeys, modest, calm, conditions, laid).
  DERIVED. THE GIVEN ROWS OF THIS SEAT. 3 by the template 'for every input the law returns true; each argument reads behind the call as it read before'; 0 by the template 'total and deterministic' (their statements: YtcchdnnpccelbaaTotals.lean).
  GIVEN WITH THE SEED: the statements are not yours to turn. If you find one false, say at which input.
  Laid BY PROGRAM, IN A SANDBOX (cutbox-rows.mjs): the forced cells as the released guide's own fill.sh prints them over the translation 0eb6b87eccd1b413… (all of the seat's roots in one cut). By AI agents, Wed Nov 11 2026. No macro, syntax, notation, axiom, sorry.
-/
import Derived.Test.YtcchdnnpccelbaaChecked
import GoSem.Claim
import GoSem.ClaimJoined
import GoSem.ClaimMapViews
import Derived.JoinedTies
import Derived.KernelRfl
namespace Go.Proofs.Ytcchdnnpccelbaa
/- THE CELL 'sum', in the pinned program and in every row, IS THE sha256 OF THE DUMP (.gsa) THAT YtcchdnnpccelbaaProg.lean LOADS. Nothing in Lean hashes anything: it is a label: what it is worth is what the hold of that sum in a sandbox is worth. -/
noncomputable def Try.pinned : Pinned := { name := "ytcchdnnpccelbaa", sum := "0eb6b87eccd1b41396461c1eb6c1bedffebfa7b4befcd357c7a101721967fe71", checked := Try.checked }
namespace Rows
def none {H : Type} : Left H := { results := [], args := [] }

/-- 'laws.FnExactCountThreshold': WHATEVER THE INPUT: true; the input reads as it did. -/
def fnExactCountThresholdSpec : ChangeSpec := { name := "fnExactCountThreshold", fn := fun _ => fun
  | [d] => { results := [.lit (.bool true)], args := [d] }
  | _ => none }
def fnExactCountThresholdRow : OpenClaim := { program := "ytcchdnnpccelbaa", sum := "0eb6b87eccd1b41396461c1eb6c1bedffebfa7b4befcd357c7a101721967fe71", func := "loop.example/g01323/laws.FnExactCountThreshold", spec := "fnExactCountThreshold", unfollowed := true, recurses := true, apart := false }
def FnExactCountThresholdSaid : Prop := fnExactCountThresholdRow.holds Try.pinned (OpenSpec.ofChange fnExactCountThresholdSpec)

/-- ITS FALSE NEIGHBOUR: 'it returns false'. Refute it at one input. -/
def fnExactCountThresholdWrong : ChangeSpec := { name := "fnExactCountThreshold", fn := fun _ => fun
  | [d] => { results := [.lit (.bool false)], args := [d] }
  | _ => none }
def FnExactCountThresholdWrongFalsely : Prop := fnExactCountThresholdRow.holds Try.pinned (OpenSpec.ofChange fnExactCountThresholdWrong)

/-- 'laws.FnExactWeighingOf': WHATEVER THE INPUT: true; the input reads as it did. -/
def fnExactWeighingOfSpec : ChangeSpec := { name := "fnExactWeighingOf", fn := fun _ => fun
  | [d] => { results := [.lit (.bool true)], args := [d] }
  | _ => none }
def fnExactWeighingOfRow : OpenClaim := { program := "ytcchdnnpccelbaa", sum := "0eb6b87eccd1b41396461c1eb6c1bedffebfa7b4befcd357c7a101721967fe71", func := "loop.example/g01323/laws.FnExactWeighingOf", spec := "fnExactWeighingOf", recurses := true, apart := false }
def FnExactWeighingOfSaid : Prop := fnExactWeighingOfRow.holds Try.pinned (OpenSpec.ofChange fnExactWeighingOfSpec)

/-- ITS FALSE NEIGHBOUR: 'it returns false'. Refute it at one input. -/
def fnExactWeighingOfWrong : ChangeSpec := { name := "fnExactWeighingOf", fn := fun _ => fun
  | [d] => { results := [.lit (.bool false)], args := [d] }
  | _ => none }
def FnExactWeighingOfWrongFalsely : Prop := fnExactWeighingOfRow.holds Try.pinned (OpenSpec.ofChange fnExactWeighingOfWrong)

/-- 'laws.FnExactVariablesOfFormula': WHATEVER THE INPUT: true; the input reads as it did. -/
def fnExactVariablesOfFormulaSpec : ChangeSpec := { name := "fnExactVariablesOfFormula", fn := fun _ => fun
  | [d] => { results := [.lit (.bool true)], args := [d] }
  | _ => none }
def fnExactVariablesOfFormulaRow : OpenClaim := { program := "ytcchdnnpccelbaa", sum := "0eb6b87eccd1b41396461c1eb6c1bedffebfa7b4befcd357c7a101721967fe71", func := "loop.example/g01323/laws.FnExactVariablesOfFormula", spec := "fnExactVariablesOfFormula", inPlace := ["internal/bytealg.IndexByteString", "internal/bytealg.IndexString"], recurses := true, named := ["internal/bytealg.MaxLen"], apart := false }
def FnExactVariablesOfFormulaSaid : Prop := fnExactVariablesOfFormulaRow.holds Try.pinned (OpenSpec.ofChange fnExactVariablesOfFormulaSpec)

/-- ITS FALSE NEIGHBOUR: 'it returns false'. Refute it at one input. -/
def fnExactVariablesOfFormulaWrong : ChangeSpec := { name := "fnExactVariablesOfFormula", fn := fun _ => fun
  | [d] => { results := [.lit (.bool false)], args := [d] }
  | _ => none }
def FnExactVariablesOfFormulaWrongFalsely : Prop := fnExactVariablesOfFormulaRow.holds Try.pinned (OpenSpec.ofChange fnExactVariablesOfFormulaWrong)

/- THE SECOND FORM. 'bulk': how many values and letters a reading holds, each counted each time it is reached (what is shared counts as often as it is met; a slice's spare places count too). A statement '..UptoSaid' is the law's where the arguments, and the package variables that the reading takes, are together of bulk at most 1048576: NARROWER than '..Said'. Prove '..Said' where nothing that the law and all that it calls make is longer than what came in: it says more and counts as full. Else prove '..UptoSaid'. A law counts once. -/
mutual
def uptoBulk {H : Type} : DataW H → Nat
  | .lit (.string bytes) => bytes.length + 1
  | .lit _ => 1
  | .nil => 1
  | .ptr d => uptoBulk d + 1
  | .slice elems spare => uptoBulkAll elems + uptoBulkAll spare + 1
  | .agg parts => uptoBulkAll parts + 1
  | .iface _ d => uptoBulk d + 1
  | .map entries => uptoBulkEntries entries + 1
  | .held _ => 1
def uptoBulkAll {H : Type} : List (DataW H) → Nat
  | [] => 0
  | d :: r => uptoBulk d + uptoBulkAll r
def uptoBulkEntries {H : Type} : List (Lit × DataW H) → Nat
  | [] => 0
  | x :: r => uptoBulkEntry x + uptoBulkEntries r
def uptoBulkEntry {H : Type} : Lit × DataW H → Nat
  | (.string bytes, d) => bytes.length + uptoBulk d + 1
  | (_, d) => uptoBulk d + 1
 end
def uptoSmall : (H : Type) → List (DataW H) → Bool := fun _ ds => decide (uptoBulkAll ds ≤ 1048576)
def OpenSpec.upto (s : _root_.Go.ChangeSpec) : _root_.Go.OpenSpec := { _root_.Go.OpenSpec.ofChange s with cond := some uptoSmall }

/-- 'laws.FnExactCountThreshold', WHERE WHAT IT READS IS OF BULK AT MOST 1048576: true; the input reads as it did. -/
def fnExactCountThresholdUptoRow : OpenClaim := { program := "ytcchdnnpccelbaa", sum := "0eb6b87eccd1b41396461c1eb6c1bedffebfa7b4befcd357c7a101721967fe71", func := "loop.example/g01323/laws.FnExactCountThreshold", spec := "fnExactCountThreshold", unfollowed := true, recurses := true, apart := false, narrowed := true }
def FnExactCountThresholdUptoSaid : Prop := fnExactCountThresholdUptoRow.holds Try.pinned (OpenSpec.upto fnExactCountThresholdSpec)

/-- 'laws.FnExactWeighingOf', WHERE WHAT IT READS IS OF BULK AT MOST 1048576: true; the input reads as it did. -/
def fnExactWeighingOfUptoRow : OpenClaim := { program := "ytcchdnnpccelbaa", sum := "0eb6b87eccd1b41396461c1eb6c1bedffebfa7b4befcd357c7a101721967fe71", func := "loop.example/g01323/laws.FnExactWeighingOf", spec := "fnExactWeighingOf", recurses := true, apart := false, narrowed := true }
def FnExactWeighingOfUptoSaid : Prop := fnExactWeighingOfUptoRow.holds Try.pinned (OpenSpec.upto fnExactWeighingOfSpec)

/-- 'laws.FnExactVariablesOfFormula', WHERE WHAT IT READS IS OF BULK AT MOST 1048576: true; the input reads as it did. -/
def fnExactVariablesOfFormulaUptoRow : OpenClaim := { program := "ytcchdnnpccelbaa", sum := "0eb6b87eccd1b41396461c1eb6c1bedffebfa7b4befcd357c7a101721967fe71", func := "loop.example/g01323/laws.FnExactVariablesOfFormula", spec := "fnExactVariablesOfFormula", inPlace := ["internal/bytealg.IndexByteString", "internal/bytealg.IndexString"], recurses := true, named := ["internal/bytealg.MaxLen"], apart := false, narrowed := true }
def FnExactVariablesOfFormulaUptoSaid : Prop := fnExactVariablesOfFormulaUptoRow.holds Try.pinned (OpenSpec.upto fnExactVariablesOfFormulaSpec)

end Rows
end Go.Proofs.Ytcchdnnpccelbaa
