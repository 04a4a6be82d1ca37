/-
  No cell of these rows narrows 'for every input' (looked for: loops, veiled, ifaces, maps, wideKeys, modest, calm, conditions, laid).
  DERIVED. THE GIVEN ROWS OF THIS SEAT. 12 by the template 'for every input the law returns true; each argument reads behind the call as it read before'; 0 by the template 'total and deterministic' (their statements: YtgidgffcnamnaaaTotals.lean).
  GIVEN WITH THE SEED: the statements are not yours to turn. If you find one false, say at which input.
  Laid BY PROGRAM, IN A SANDBOX (cutbox-rows.mjs): the forced cells as the released guide's own fill.sh prints them over the translation ef5cd2fa2b6ad59b… (all of the seat's roots in one cut). By AI agents, Wed Nov 11 2026. No macro, syntax, notation, axiom, sorry.
-/
import Derived.Test.YtgidgffcnamnaaaChecked
import GoSem.Claim
import GoSem.ClaimJoined
import GoSem.ClaimMapViews
import Derived.JoinedTies
import Derived.KernelRfl
namespace Go.Proofs.Ytgidgffcnamnaaa
/- THE CELL 'sum', in the pinned program and in every row, IS THE sha256 OF THE DUMP (.gsa) THAT YtgidgffcnamnaaaProg.lean LOADS. Nothing in Lean hashes anything: it is a label: what it is worth is what the hold of that sum in a sandbox is worth. -/
noncomputable def Try.pinned : Pinned := { name := "ytgidgffcnamnaaa", sum := "ef5cd2fa2b6ad59bc43611c3d05f04452c7fe538902e45143d40770eb1c0c2ef", checked := Try.checked }
namespace Rows
def none {H : Type} : Left H := { results := [], args := [] }

/-- 'laws.FnExactIsRelation': WHATEVER THE INPUT: true; the input reads as it did. -/
def fnExactIsRelationSpec : ChangeSpec := { name := "fnExactIsRelation", fn := fun _ => fun
  | [d] => { results := [.lit (.bool true)], args := [d] }
  | _ => none }
def fnExactIsRelationRow : OpenClaim := { program := "ytgidgffcnamnaaa", sum := "ef5cd2fa2b6ad59bc43611c3d05f04452c7fe538902e45143d40770eb1c0c2ef", func := "loop.example/g01323/laws.FnExactIsRelation", spec := "fnExactIsRelation", apart := false }
def FnExactIsRelationSaid : Prop := fnExactIsRelationRow.holds Try.pinned (OpenSpec.ofChange fnExactIsRelationSpec)

/-- ITS FALSE NEIGHBOUR: 'it returns false'. Refute it at one input. -/
def fnExactIsRelationWrong : ChangeSpec := { name := "fnExactIsRelation", fn := fun _ => fun
  | [d] => { results := [.lit (.bool false)], args := [d] }
  | _ => none }
def FnExactIsRelationWrongFalsely : Prop := fnExactIsRelationRow.holds Try.pinned (OpenSpec.ofChange fnExactIsRelationWrong)

/-- 'laws.FnExactMeetOf': WHATEVER THE INPUT: true; the input reads as it did. -/
def fnExactMeetOfSpec : ChangeSpec := { name := "fnExactMeetOf", fn := fun _ => fun
  | [d1, d2] => { results := [.lit (.bool true)], args := [d1, d2] }
  | _ => none }
def fnExactMeetOfRow : OpenClaim := { program := "ytgidgffcnamnaaa", sum := "ef5cd2fa2b6ad59bc43611c3d05f04452c7fe538902e45143d40770eb1c0c2ef", func := "loop.example/g01323/laws.FnExactMeetOf", spec := "fnExactMeetOf", apart := false }
def FnExactMeetOfSaid : Prop := fnExactMeetOfRow.holds Try.pinned (OpenSpec.ofChange fnExactMeetOfSpec)

/-- ITS FALSE NEIGHBOUR: 'it returns false'. Refute it at one input. -/
def fnExactMeetOfWrong : ChangeSpec := { name := "fnExactMeetOf", fn := fun _ => fun
  | [d1, d2] => { results := [.lit (.bool false)], args := [d1, d2] }
  | _ => none }
def FnExactMeetOfWrongFalsely : Prop := fnExactMeetOfRow.holds Try.pinned (OpenSpec.ofChange fnExactMeetOfWrong)

/-- 'laws.FnExactIsMonotone': WHATEVER THE INPUT: true; the input reads as it did. -/
def fnExactIsMonotoneSpec : ChangeSpec := { name := "fnExactIsMonotone", fn := fun _ => fun
  | [d] => { results := [.lit (.bool true)], args := [d] }
  | _ => none }
def fnExactIsMonotoneRow : OpenClaim := { program := "ytgidgffcnamnaaa", sum := "ef5cd2fa2b6ad59bc43611c3d05f04452c7fe538902e45143d40770eb1c0c2ef", func := "loop.example/g01323/laws.FnExactIsMonotone", spec := "fnExactIsMonotone", apart := false }
def FnExactIsMonotoneSaid : Prop := fnExactIsMonotoneRow.holds Try.pinned (OpenSpec.ofChange fnExactIsMonotoneSpec)

/-- ITS FALSE NEIGHBOUR: 'it returns false'. Refute it at one input. -/
def fnExactIsMonotoneWrong : ChangeSpec := { name := "fnExactIsMonotone", fn := fun _ => fun
  | [d] => { results := [.lit (.bool false)], args := [d] }
  | _ => none }
def FnExactIsMonotoneWrongFalsely : Prop := fnExactIsMonotoneRow.holds Try.pinned (OpenSpec.ofChange fnExactIsMonotoneWrong)

/-- 'laws.FnExactIsAsStrong': WHATEVER THE INPUT: true; the input reads as it did. -/
def fnExactIsAsStrongSpec : ChangeSpec := { name := "fnExactIsAsStrong", fn := fun _ => fun
  | [d1, d2, d3] => { results := [.lit (.bool true)], args := [d1, d2, d3] }
  | _ => none }
def fnExactIsAsStrongRow : OpenClaim := { program := "ytgidgffcnamnaaa", sum := "ef5cd2fa2b6ad59bc43611c3d05f04452c7fe538902e45143d40770eb1c0c2ef", func := "loop.example/g01323/laws.FnExactIsAsStrong", spec := "fnExactIsAsStrong", apart := false }
def FnExactIsAsStrongSaid : Prop := fnExactIsAsStrongRow.holds Try.pinned (OpenSpec.ofChange fnExactIsAsStrongSpec)

/-- ITS FALSE NEIGHBOUR: 'it returns false'. Refute it at one input. -/
def fnExactIsAsStrongWrong : ChangeSpec := { name := "fnExactIsAsStrong", fn := fun _ => fun
  | [d1, d2, d3] => { results := [.lit (.bool false)], args := [d1, d2, d3] }
  | _ => none }
def FnExactIsAsStrongWrongFalsely : Prop := fnExactIsAsStrongRow.holds Try.pinned (OpenSpec.ofChange fnExactIsAsStrongWrong)

/-- 'laws.FnExactCountMonotone': WHATEVER THE INPUT: true; the input reads as it did. -/
def fnExactCountMonotoneSpec : ChangeSpec := { name := "fnExactCountMonotone", fn := fun _ => fun
  | [d] => { results := [.lit (.bool true)], args := [d] }
  | _ => none }
def fnExactCountMonotoneRow : OpenClaim := { program := "ytgidgffcnamnaaa", sum := "ef5cd2fa2b6ad59bc43611c3d05f04452c7fe538902e45143d40770eb1c0c2ef", func := "loop.example/g01323/laws.FnExactCountMonotone", spec := "fnExactCountMonotone", unfollowed := true, recurses := true, apart := false }
def FnExactCountMonotoneSaid : Prop := fnExactCountMonotoneRow.holds Try.pinned (OpenSpec.ofChange fnExactCountMonotoneSpec)

/-- ITS FALSE NEIGHBOUR: 'it returns false'. Refute it at one input. -/
def fnExactCountMonotoneWrong : ChangeSpec := { name := "fnExactCountMonotone", fn := fun _ => fun
  | [d] => { results := [.lit (.bool false)], args := [d] }
  | _ => none }
def FnExactCountMonotoneWrongFalsely : Prop := fnExactCountMonotoneRow.holds Try.pinned (OpenSpec.ofChange fnExactCountMonotoneWrong)

/-- 'laws.FnWeighings': WHATEVER THE INPUT: true; the input reads as it did. -/
def fnWeighingsSpec : ChangeSpec := { name := "fnWeighings", fn := fun _ => fun
  | [d] => { results := [.lit (.bool true)], args := [d] }
  | _ => none }
def fnWeighingsRow : OpenClaim := { program := "ytgidgffcnamnaaa", sum := "ef5cd2fa2b6ad59bc43611c3d05f04452c7fe538902e45143d40770eb1c0c2ef", func := "loop.example/g01323/laws.FnWeighings", spec := "fnWeighings", unfollowed := true, recurses := true, apart := false }
def FnWeighingsSaid : Prop := fnWeighingsRow.holds Try.pinned (OpenSpec.ofChange fnWeighingsSpec)

/-- ITS FALSE NEIGHBOUR: 'it returns false'. Refute it at one input. -/
def fnWeighingsWrong : ChangeSpec := { name := "fnWeighings", fn := fun _ => fun
  | [d] => { results := [.lit (.bool false)], args := [d] }
  | _ => none }
def FnWeighingsWrongFalsely : Prop := fnWeighingsRow.holds Try.pinned (OpenSpec.ofChange fnWeighingsWrong)

/-- 'laws.FnExactGraphOf': WHATEVER THE INPUT: true; the input reads as it did. -/
def fnExactGraphOfSpec : ChangeSpec := { name := "fnExactGraphOf", fn := fun _ => fun
  | [d] => { results := [.lit (.bool true)], args := [d] }
  | _ => none }
def fnExactGraphOfRow : OpenClaim := { program := "ytgidgffcnamnaaa", sum := "ef5cd2fa2b6ad59bc43611c3d05f04452c7fe538902e45143d40770eb1c0c2ef", func := "loop.example/g01323/laws.FnExactGraphOf", spec := "fnExactGraphOf", unfollowed := true, recurses := true, apart := false }
def FnExactGraphOfSaid : Prop := fnExactGraphOfRow.holds Try.pinned (OpenSpec.ofChange fnExactGraphOfSpec)

/-- ITS FALSE NEIGHBOUR: 'it returns false'. Refute it at one input. -/
def fnExactGraphOfWrong : ChangeSpec := { name := "fnExactGraphOf", fn := fun _ => fun
  | [d] => { results := [.lit (.bool false)], args := [d] }
  | _ => none }
def FnExactGraphOfWrongFalsely : Prop := fnExactGraphOfRow.holds Try.pinned (OpenSpec.ofChange fnExactGraphOfWrong)

/-- 'laws.FnExactCountTuples': WHATEVER THE INPUT: true; the input reads as it did. -/
def fnExactCountTuplesSpec : ChangeSpec := { name := "fnExactCountTuples", fn := fun _ => fun
  | [d] => { results := [.lit (.bool true)], args := [d] }
  | _ => none }
def fnExactCountTuplesRow : OpenClaim := { program := "ytgidgffcnamnaaa", sum := "ef5cd2fa2b6ad59bc43611c3d05f04452c7fe538902e45143d40770eb1c0c2ef", func := "loop.example/g01323/laws.FnExactCountTuples", spec := "fnExactCountTuples", apart := false }
def FnExactCountTuplesSaid : Prop := fnExactCountTuplesRow.holds Try.pinned (OpenSpec.ofChange fnExactCountTuplesSpec)

/-- ITS FALSE NEIGHBOUR: 'it returns false'. Refute it at one input. -/
def fnExactCountTuplesWrong : ChangeSpec := { name := "fnExactCountTuples", fn := fun _ => fun
  | [d] => { results := [.lit (.bool false)], args := [d] }
  | _ => none }
def FnExactCountTuplesWrongFalsely : Prop := fnExactCountTuplesRow.holds Try.pinned (OpenSpec.ofChange fnExactCountTuplesWrong)

/-- 'laws.FnExactIsUnary': WHATEVER THE INPUT: true; the input reads as it did. -/
def fnExactIsUnarySpec : ChangeSpec := { name := "fnExactIsUnary", fn := fun _ => fun
  | [d] => { results := [.lit (.bool true)], args := [d] }
  | _ => none }
def fnExactIsUnaryRow : OpenClaim := { program := "ytgidgffcnamnaaa", sum := "ef5cd2fa2b6ad59bc43611c3d05f04452c7fe538902e45143d40770eb1c0c2ef", func := "loop.example/g01323/laws.FnExactIsUnary", spec := "fnExactIsUnary", apart := false }
def FnExactIsUnarySaid : Prop := fnExactIsUnaryRow.holds Try.pinned (OpenSpec.ofChange fnExactIsUnarySpec)

/-- ITS FALSE NEIGHBOUR: 'it returns false'. Refute it at one input. -/
def fnExactIsUnaryWrong : ChangeSpec := { name := "fnExactIsUnary", fn := fun _ => fun
  | [d] => { results := [.lit (.bool false)], args := [d] }
  | _ => none }
def FnExactIsUnaryWrongFalsely : Prop := fnExactIsUnaryRow.holds Try.pinned (OpenSpec.ofChange fnExactIsUnaryWrong)

/-- 'laws.FnExactProductOf': WHATEVER THE INPUT: true; the input reads as it did. -/
def fnExactProductOfSpec : ChangeSpec := { name := "fnExactProductOf", fn := fun _ => fun
  | [d1, d2] => { results := [.lit (.bool true)], args := [d1, d2] }
  | _ => none }
def fnExactProductOfRow : OpenClaim := { program := "ytgidgffcnamnaaa", sum := "ef5cd2fa2b6ad59bc43611c3d05f04452c7fe538902e45143d40770eb1c0c2ef", func := "loop.example/g01323/laws.FnExactProductOf", spec := "fnExactProductOf", unfollowed := true, recurses := true, apart := false }
def FnExactProductOfSaid : Prop := fnExactProductOfRow.holds Try.pinned (OpenSpec.ofChange fnExactProductOfSpec)

/-- ITS FALSE NEIGHBOUR: 'it returns false'. Refute it at one input. -/
def fnExactProductOfWrong : ChangeSpec := { name := "fnExactProductOf", fn := fun _ => fun
  | [d1, d2] => { results := [.lit (.bool false)], args := [d1, d2] }
  | _ => none }
def FnExactProductOfWrongFalsely : Prop := fnExactProductOfRow.holds Try.pinned (OpenSpec.ofChange fnExactProductOfWrong)

/-- 'laws.FnExactIsRegular': WHATEVER THE INPUT: true; the input reads as it did. -/
def fnExactIsRegularSpec : ChangeSpec := { name := "fnExactIsRegular", fn := fun _ => fun
  | [d] => { results := [.lit (.bool true)], args := [d] }
  | _ => none }
def fnExactIsRegularRow : OpenClaim := { program := "ytgidgffcnamnaaa", sum := "ef5cd2fa2b6ad59bc43611c3d05f04452c7fe538902e45143d40770eb1c0c2ef", func := "loop.example/g01323/laws.FnExactIsRegular", spec := "fnExactIsRegular", apart := false }
def FnExactIsRegularSaid : Prop := fnExactIsRegularRow.holds Try.pinned (OpenSpec.ofChange fnExactIsRegularSpec)

/-- ITS FALSE NEIGHBOUR: 'it returns false'. Refute it at one input. -/
def fnExactIsRegularWrong : ChangeSpec := { name := "fnExactIsRegular", fn := fun _ => fun
  | [d] => { results := [.lit (.bool false)], args := [d] }
  | _ => none }
def FnExactIsRegularWrongFalsely : Prop := fnExactIsRegularRow.holds Try.pinned (OpenSpec.ofChange fnExactIsRegularWrong)

/-- 'laws.FnExactBasesOf': WHATEVER THE INPUT: true; the input reads as it did. -/
def fnExactBasesOfSpec : ChangeSpec := { name := "fnExactBasesOf", fn := fun _ => fun
  | [d] => { results := [.lit (.bool true)], args := [d] }
  | _ => none }
def fnExactBasesOfRow : OpenClaim := { program := "ytgidgffcnamnaaa", sum := "ef5cd2fa2b6ad59bc43611c3d05f04452c7fe538902e45143d40770eb1c0c2ef", func := "loop.example/g01323/laws.FnExactBasesOf", spec := "fnExactBasesOf", unfollowed := true, recurses := true, apart := false }
def FnExactBasesOfSaid : Prop := fnExactBasesOfRow.holds Try.pinned (OpenSpec.ofChange fnExactBasesOfSpec)

/-- ITS FALSE NEIGHBOUR: 'it returns false'. Refute it at one input. -/
def fnExactBasesOfWrong : ChangeSpec := { name := "fnExactBasesOf", fn := fun _ => fun
  | [d] => { results := [.lit (.bool false)], args := [d] }
  | _ => none }
def FnExactBasesOfWrongFalsely : Prop := fnExactBasesOfRow.holds Try.pinned (OpenSpec.ofChange fnExactBasesOfWrong)

/- THE SECOND FORM. 'bulk': how many values and letters a reading holds, each counted each time it is reached (what is shared counts as often as it is met; a slice's spare places count too). A statement '..UptoSaid' is the law's where the arguments, and the package variables that the reading takes, are together of bulk at most 1048576: NARROWER than '..Said'. Prove '..Said' where nothing that the law and all that it calls make is longer than what came in: it says more and counts as full. Else prove '..UptoSaid'. A law counts once. -/
mutual
def uptoBulk {H : Type} : DataW H → Nat
  | .lit (.string bytes) => bytes.length + 1
  | .lit _ => 1
  | .nil => 1
  | .ptr d => uptoBulk d + 1
  | .slice elems spare => uptoBulkAll elems + uptoBulkAll spare + 1
  | .agg parts => uptoBulkAll parts + 1
  | .iface _ d => uptoBulk d + 1
  | .map entries => uptoBulkEntries entries + 1
  | .held _ => 1
def uptoBulkAll {H : Type} : List (DataW H) → Nat
  | [] => 0
  | d :: r => uptoBulk d + uptoBulkAll r
def uptoBulkEntries {H : Type} : List (Lit × DataW H) → Nat
  | [] => 0
  | x :: r => uptoBulkEntry x + uptoBulkEntries r
def uptoBulkEntry {H : Type} : Lit × DataW H → Nat
  | (.string bytes, d) => bytes.length + uptoBulk d + 1
  | (_, d) => uptoBulk d + 1
 end
def uptoSmall : (H : Type) → List (DataW H) → Bool := fun _ ds => decide (uptoBulkAll ds ≤ 1048576)
def OpenSpec.upto (s : _root_.Go.ChangeSpec) : _root_.Go.OpenSpec := { _root_.Go.OpenSpec.ofChange s with cond := some uptoSmall }

/-- 'laws.FnExactIsRelation', WHERE WHAT IT READS IS OF BULK AT MOST 1048576: true; the input reads as it did. -/
def fnExactIsRelationUptoRow : OpenClaim := { program := "ytgidgffcnamnaaa", sum := "ef5cd2fa2b6ad59bc43611c3d05f04452c7fe538902e45143d40770eb1c0c2ef", func := "loop.example/g01323/laws.FnExactIsRelation", spec := "fnExactIsRelation", apart := false, narrowed := true }
def FnExactIsRelationUptoSaid : Prop := fnExactIsRelationUptoRow.holds Try.pinned (OpenSpec.upto fnExactIsRelationSpec)

/-- 'laws.FnExactMeetOf', WHERE WHAT IT READS IS OF BULK AT MOST 1048576: true; the input reads as it did. -/
def fnExactMeetOfUptoRow : OpenClaim := { program := "ytgidgffcnamnaaa", sum := "ef5cd2fa2b6ad59bc43611c3d05f04452c7fe538902e45143d40770eb1c0c2ef", func := "loop.example/g01323/laws.FnExactMeetOf", spec := "fnExactMeetOf", apart := false, narrowed := true }
def FnExactMeetOfUptoSaid : Prop := fnExactMeetOfUptoRow.holds Try.pinned (OpenSpec.upto fnExactMeetOfSpec)

/-- 'laws.FnExactIsMonotone', WHERE WHAT IT READS IS OF BULK AT MOST 1048576: true; the input reads as it did. -/
def fnExactIsMonotoneUptoRow : OpenClaim := { program := "ytgidgffcnamnaaa", sum := "ef5cd2fa2b6ad59bc43611c3d05f04452c7fe538902e45143d40770eb1c0c2ef", func := "loop.example/g01323/laws.FnExactIsMonotone", spec := "fnExactIsMonotone", apart := false, narrowed := true }
def FnExactIsMonotoneUptoSaid : Prop := fnExactIsMonotoneUptoRow.holds Try.pinned (OpenSpec.upto fnExactIsMonotoneSpec)

/-- 'laws.FnExactIsAsStrong', WHERE WHAT IT READS IS OF BULK AT MOST 1048576: true; the input reads as it did. -/
def fnExactIsAsStrongUptoRow : OpenClaim := { program := "ytgidgffcnamnaaa", sum := "ef5cd2fa2b6ad59bc43611c3d05f04452c7fe538902e45143d40770eb1c0c2ef", func := "loop.example/g01323/laws.FnExactIsAsStrong", spec := "fnExactIsAsStrong", apart := false, narrowed := true }
def FnExactIsAsStrongUptoSaid : Prop := fnExactIsAsStrongUptoRow.holds Try.pinned (OpenSpec.upto fnExactIsAsStrongSpec)

/-- 'laws.FnExactCountMonotone', WHERE WHAT IT READS IS OF BULK AT MOST 1048576: true; the input reads as it did. -/
def fnExactCountMonotoneUptoRow : OpenClaim := { program := "ytgidgffcnamnaaa", sum := "ef5cd2fa2b6ad59bc43611c3d05f04452c7fe538902e45143d40770eb1c0c2ef", func := "loop.example/g01323/laws.FnExactCountMonotone", spec := "fnExactCountMonotone", unfollowed := true, recurses := true, apart := false, narrowed := true }
def FnExactCountMonotoneUptoSaid : Prop := fnExactCountMonotoneUptoRow.holds Try.pinned (OpenSpec.upto fnExactCountMonotoneSpec)

/-- 'laws.FnWeighings', WHERE WHAT IT READS IS OF BULK AT MOST 1048576: true; the input reads as it did. -/
def fnWeighingsUptoRow : OpenClaim := { program := "ytgidgffcnamnaaa", sum := "ef5cd2fa2b6ad59bc43611c3d05f04452c7fe538902e45143d40770eb1c0c2ef", func := "loop.example/g01323/laws.FnWeighings", spec := "fnWeighings", unfollowed := true, recurses := true, apart := false, narrowed := true }
def FnWeighingsUptoSaid : Prop := fnWeighingsUptoRow.holds Try.pinned (OpenSpec.upto fnWeighingsSpec)

/-- 'laws.FnExactGraphOf', WHERE WHAT IT READS IS OF BULK AT MOST 1048576: true; the input reads as it did. -/
def fnExactGraphOfUptoRow : OpenClaim := { program := "ytgidgffcnamnaaa", sum := "ef5cd2fa2b6ad59bc43611c3d05f04452c7fe538902e45143d40770eb1c0c2ef", func := "loop.example/g01323/laws.FnExactGraphOf", spec := "fnExactGraphOf", unfollowed := true, recurses := true, apart := false, narrowed := true }
def FnExactGraphOfUptoSaid : Prop := fnExactGraphOfUptoRow.holds Try.pinned (OpenSpec.upto fnExactGraphOfSpec)

/-- 'laws.FnExactCountTuples', WHERE WHAT IT READS IS OF BULK AT MOST 1048576: true; the input reads as it did. -/
def fnExactCountTuplesUptoRow : OpenClaim := { program := "ytgidgffcnamnaaa", sum := "ef5cd2fa2b6ad59bc43611c3d05f04452c7fe538902e45143d40770eb1c0c2ef", func := "loop.example/g01323/laws.FnExactCountTuples", spec := "fnExactCountTuples", apart := false, narrowed := true }
def FnExactCountTuplesUptoSaid : Prop := fnExactCountTuplesUptoRow.holds Try.pinned (OpenSpec.upto fnExactCountTuplesSpec)

/-- 'laws.FnExactIsUnary', WHERE WHAT IT READS IS OF BULK AT MOST 1048576: true; the input reads as it did. -/
def fnExactIsUnaryUptoRow : OpenClaim := { program := "ytgidgffcnamnaaa", sum := "ef5cd2fa2b6ad59bc43611c3d05f04452c7fe538902e45143d40770eb1c0c2ef", func := "loop.example/g01323/laws.FnExactIsUnary", spec := "fnExactIsUnary", apart := false, narrowed := true }
def FnExactIsUnaryUptoSaid : Prop := fnExactIsUnaryUptoRow.holds Try.pinned (OpenSpec.upto fnExactIsUnarySpec)

/-- 'laws.FnExactProductOf', WHERE WHAT IT READS IS OF BULK AT MOST 1048576: true; the input reads as it did. -/
def fnExactProductOfUptoRow : OpenClaim := { program := "ytgidgffcnamnaaa", sum := "ef5cd2fa2b6ad59bc43611c3d05f04452c7fe538902e45143d40770eb1c0c2ef", func := "loop.example/g01323/laws.FnExactProductOf", spec := "fnExactProductOf", unfollowed := true, recurses := true, apart := false, narrowed := true }
def FnExactProductOfUptoSaid : Prop := fnExactProductOfUptoRow.holds Try.pinned (OpenSpec.upto fnExactProductOfSpec)

/-- 'laws.FnExactIsRegular', WHERE WHAT IT READS IS OF BULK AT MOST 1048576: true; the input reads as it did. -/
def fnExactIsRegularUptoRow : OpenClaim := { program := "ytgidgffcnamnaaa", sum := "ef5cd2fa2b6ad59bc43611c3d05f04452c7fe538902e45143d40770eb1c0c2ef", func := "loop.example/g01323/laws.FnExactIsRegular", spec := "fnExactIsRegular", apart := false, narrowed := true }
def FnExactIsRegularUptoSaid : Prop := fnExactIsRegularUptoRow.holds Try.pinned (OpenSpec.upto fnExactIsRegularSpec)

/-- 'laws.FnExactBasesOf', WHERE WHAT IT READS IS OF BULK AT MOST 1048576: true; the input reads as it did. -/
def fnExactBasesOfUptoRow : OpenClaim := { program := "ytgidgffcnamnaaa", sum := "ef5cd2fa2b6ad59bc43611c3d05f04452c7fe538902e45143d40770eb1c0c2ef", func := "loop.example/g01323/laws.FnExactBasesOf", spec := "fnExactBasesOf", unfollowed := true, recurses := true, apart := false, narrowed := true }
def FnExactBasesOfUptoSaid : Prop := fnExactBasesOfUptoRow.holds Try.pinned (OpenSpec.upto fnExactBasesOfSpec)

end Rows
end Go.Proofs.Ytgidgffcnamnaaa
