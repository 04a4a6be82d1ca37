/-
  No cell of these rows narrows 'for every input' (looked for: loops, veiled, ifaces, maps, wideKeys, modest, calm, conditions, laid).
  DERIVED. THE GIVEN ROWS OF THIS SEAT. 6 by the template 'for every input the law returns true; each argument reads behind the call as it read before'; 0 by the template 'total and deterministic' (their statements: YtadmbjneagdfdaaTotals.lean).
  GIVEN WITH THE SEED: the statements are not yours to turn. If you find one false, say at which input.
  Laid BY PROGRAM, IN A SANDBOX (cutbox-rows.mjs): the forced cells as the released guide's own fill.sh prints them over the translation 60bdbd8784b85790… (all of the seat's roots in one cut). By AI agents, Wed Nov 11 2026. No macro, syntax, notation, axiom, sorry.
-/
import Derived.Test.YtadmbjneagdfdaaChecked
import GoSem.Claim
import GoSem.ClaimJoined
import GoSem.ClaimMapViews
import Derived.JoinedTies
import Derived.KernelRfl
namespace Go.Proofs.Ytadmbjneagdfdaa
/- THE CELL 'sum', in the pinned program and in every row, IS THE sha256 OF THE DUMP (.gsa) THAT YtadmbjneagdfdaaProg.lean LOADS. Nothing in Lean hashes anything: it is a label: what it is worth is what the hold of that sum in a sandbox is worth. -/
noncomputable def Try.pinned : Pinned := { name := "ytadmbjneagdfdaa", sum := "60bdbd8784b857908a6ffbb4bedc0afe7ef13a8539b793f1c4968a67c218b36e", checked := Try.checked }
namespace Rows
def none {H : Type} : Left H := { results := [], args := [] }

/-- 'laws.FnExactCountMonotone': WHATEVER THE INPUT: true; the input reads as it did. -/
def fnExactCountMonotoneSpec : ChangeSpec := { name := "fnExactCountMonotone", fn := fun _ => fun
  | [d] => { results := [.lit (.bool true)], args := [d] }
  | _ => none }
def fnExactCountMonotoneRow : OpenClaim := { program := "ytadmbjneagdfdaa", sum := "60bdbd8784b857908a6ffbb4bedc0afe7ef13a8539b793f1c4968a67c218b36e", func := "loop.example/g01323/laws.FnExactCountMonotone", spec := "fnExactCountMonotone", unfollowed := true, recurses := true, apart := false }
def FnExactCountMonotoneSaid : Prop := fnExactCountMonotoneRow.holds Try.pinned (OpenSpec.ofChange fnExactCountMonotoneSpec)

/-- ITS FALSE NEIGHBOUR: 'it returns false'. Refute it at one input. -/
def fnExactCountMonotoneWrong : ChangeSpec := { name := "fnExactCountMonotone", fn := fun _ => fun
  | [d] => { results := [.lit (.bool false)], args := [d] }
  | _ => none }
def FnExactCountMonotoneWrongFalsely : Prop := fnExactCountMonotoneRow.holds Try.pinned (OpenSpec.ofChange fnExactCountMonotoneWrong)

/-- 'laws.FnExactGraphOf': WHATEVER THE INPUT: true; the input reads as it did. -/
def fnExactGraphOfSpec : ChangeSpec := { name := "fnExactGraphOf", fn := fun _ => fun
  | [d] => { results := [.lit (.bool true)], args := [d] }
  | _ => none }
def fnExactGraphOfRow : OpenClaim := { program := "ytadmbjneagdfdaa", sum := "60bdbd8784b857908a6ffbb4bedc0afe7ef13a8539b793f1c4968a67c218b36e", func := "loop.example/g01323/laws.FnExactGraphOf", spec := "fnExactGraphOf", unfollowed := true, recurses := true, apart := false }
def FnExactGraphOfSaid : Prop := fnExactGraphOfRow.holds Try.pinned (OpenSpec.ofChange fnExactGraphOfSpec)

/-- ITS FALSE NEIGHBOUR: 'it returns false'. Refute it at one input. -/
def fnExactGraphOfWrong : ChangeSpec := { name := "fnExactGraphOf", fn := fun _ => fun
  | [d] => { results := [.lit (.bool false)], args := [d] }
  | _ => none }
def FnExactGraphOfWrongFalsely : Prop := fnExactGraphOfRow.holds Try.pinned (OpenSpec.ofChange fnExactGraphOfWrong)

/-- 'laws.FnExactCountTuples': WHATEVER THE INPUT: true; the input reads as it did. -/
def fnExactCountTuplesSpec : ChangeSpec := { name := "fnExactCountTuples", fn := fun _ => fun
  | [d] => { results := [.lit (.bool true)], args := [d] }
  | _ => none }
def fnExactCountTuplesRow : OpenClaim := { program := "ytadmbjneagdfdaa", sum := "60bdbd8784b857908a6ffbb4bedc0afe7ef13a8539b793f1c4968a67c218b36e", func := "loop.example/g01323/laws.FnExactCountTuples", spec := "fnExactCountTuples", apart := false }
def FnExactCountTuplesSaid : Prop := fnExactCountTuplesRow.holds Try.pinned (OpenSpec.ofChange fnExactCountTuplesSpec)

/-- ITS FALSE NEIGHBOUR: 'it returns false'. Refute it at one input. -/
def fnExactCountTuplesWrong : ChangeSpec := { name := "fnExactCountTuples", fn := fun _ => fun
  | [d] => { results := [.lit (.bool false)], args := [d] }
  | _ => none }
def FnExactCountTuplesWrongFalsely : Prop := fnExactCountTuplesRow.holds Try.pinned (OpenSpec.ofChange fnExactCountTuplesWrong)

/-- 'laws.FnExactIsUnary': WHATEVER THE INPUT: true; the input reads as it did. -/
def fnExactIsUnarySpec : ChangeSpec := { name := "fnExactIsUnary", fn := fun _ => fun
  | [d] => { results := [.lit (.bool true)], args := [d] }
  | _ => none }
def fnExactIsUnaryRow : OpenClaim := { program := "ytadmbjneagdfdaa", sum := "60bdbd8784b857908a6ffbb4bedc0afe7ef13a8539b793f1c4968a67c218b36e", func := "loop.example/g01323/laws.FnExactIsUnary", spec := "fnExactIsUnary", apart := false }
def FnExactIsUnarySaid : Prop := fnExactIsUnaryRow.holds Try.pinned (OpenSpec.ofChange fnExactIsUnarySpec)

/-- ITS FALSE NEIGHBOUR: 'it returns false'. Refute it at one input. -/
def fnExactIsUnaryWrong : ChangeSpec := { name := "fnExactIsUnary", fn := fun _ => fun
  | [d] => { results := [.lit (.bool false)], args := [d] }
  | _ => none }
def FnExactIsUnaryWrongFalsely : Prop := fnExactIsUnaryRow.holds Try.pinned (OpenSpec.ofChange fnExactIsUnaryWrong)

/-- 'laws.FnExactProductOf': WHATEVER THE INPUT: true; the input reads as it did. -/
def fnExactProductOfSpec : ChangeSpec := { name := "fnExactProductOf", fn := fun _ => fun
  | [d1, d2] => { results := [.lit (.bool true)], args := [d1, d2] }
  | _ => none }
def fnExactProductOfRow : OpenClaim := { program := "ytadmbjneagdfdaa", sum := "60bdbd8784b857908a6ffbb4bedc0afe7ef13a8539b793f1c4968a67c218b36e", func := "loop.example/g01323/laws.FnExactProductOf", spec := "fnExactProductOf", unfollowed := true, recurses := true, apart := false }
def FnExactProductOfSaid : Prop := fnExactProductOfRow.holds Try.pinned (OpenSpec.ofChange fnExactProductOfSpec)

/-- ITS FALSE NEIGHBOUR: 'it returns false'. Refute it at one input. -/
def fnExactProductOfWrong : ChangeSpec := { name := "fnExactProductOf", fn := fun _ => fun
  | [d1, d2] => { results := [.lit (.bool false)], args := [d1, d2] }
  | _ => none }
def FnExactProductOfWrongFalsely : Prop := fnExactProductOfRow.holds Try.pinned (OpenSpec.ofChange fnExactProductOfWrong)

/-- 'laws.FnExactIsRegular': WHATEVER THE INPUT: true; the input reads as it did. -/
def fnExactIsRegularSpec : ChangeSpec := { name := "fnExactIsRegular", fn := fun _ => fun
  | [d] => { results := [.lit (.bool true)], args := [d] }
  | _ => none }
def fnExactIsRegularRow : OpenClaim := { program := "ytadmbjneagdfdaa", sum := "60bdbd8784b857908a6ffbb4bedc0afe7ef13a8539b793f1c4968a67c218b36e", func := "loop.example/g01323/laws.FnExactIsRegular", spec := "fnExactIsRegular", apart := false }
def FnExactIsRegularSaid : Prop := fnExactIsRegularRow.holds Try.pinned (OpenSpec.ofChange fnExactIsRegularSpec)

/-- ITS FALSE NEIGHBOUR: 'it returns false'. Refute it at one input. -/
def fnExactIsRegularWrong : ChangeSpec := { name := "fnExactIsRegular", fn := fun _ => fun
  | [d] => { results := [.lit (.bool false)], args := [d] }
  | _ => none }
def FnExactIsRegularWrongFalsely : Prop := fnExactIsRegularRow.holds Try.pinned (OpenSpec.ofChange fnExactIsRegularWrong)

/- THE SECOND FORM. 'bulk': how many values and letters a reading holds, each counted each time it is reached (what is shared counts as often as it is met; a slice's spare places count too). A statement '..UptoSaid' is the law's where the arguments, and the package variables that the reading takes, are together of bulk at most 1048576: NARROWER than '..Said'. Prove '..Said' where nothing that the law and all that it calls make is longer than what came in: it says more and counts as full. Else prove '..UptoSaid'. A law counts once. -/
mutual
def uptoBulk {H : Type} : DataW H → Nat
  | .lit (.string bytes) => bytes.length + 1
  | .lit _ => 1
  | .nil => 1
  | .ptr d => uptoBulk d + 1
  | .slice elems spare => uptoBulkAll elems + uptoBulkAll spare + 1
  | .agg parts => uptoBulkAll parts + 1
  | .iface _ d => uptoBulk d + 1
  | .map entries => uptoBulkEntries entries + 1
  | .held _ => 1
def uptoBulkAll {H : Type} : List (DataW H) → Nat
  | [] => 0
  | d :: r => uptoBulk d + uptoBulkAll r
def uptoBulkEntries {H : Type} : List (Lit × DataW H) → Nat
  | [] => 0
  | x :: r => uptoBulkEntry x + uptoBulkEntries r
def uptoBulkEntry {H : Type} : Lit × DataW H → Nat
  | (.string bytes, d) => bytes.length + uptoBulk d + 1
  | (_, d) => uptoBulk d + 1
 end
def uptoSmall : (H : Type) → List (DataW H) → Bool := fun _ ds => decide (uptoBulkAll ds ≤ 1048576)
def OpenSpec.upto (s : _root_.Go.ChangeSpec) : _root_.Go.OpenSpec := { _root_.Go.OpenSpec.ofChange s with cond := some uptoSmall }

/-- 'laws.FnExactCountMonotone', WHERE WHAT IT READS IS OF BULK AT MOST 1048576: true; the input reads as it did. -/
def fnExactCountMonotoneUptoRow : OpenClaim := { program := "ytadmbjneagdfdaa", sum := "60bdbd8784b857908a6ffbb4bedc0afe7ef13a8539b793f1c4968a67c218b36e", func := "loop.example/g01323/laws.FnExactCountMonotone", spec := "fnExactCountMonotone", unfollowed := true, recurses := true, apart := false, narrowed := true }
def FnExactCountMonotoneUptoSaid : Prop := fnExactCountMonotoneUptoRow.holds Try.pinned (OpenSpec.upto fnExactCountMonotoneSpec)

/-- 'laws.FnExactGraphOf', WHERE WHAT IT READS IS OF BULK AT MOST 1048576: true; the input reads as it did. -/
def fnExactGraphOfUptoRow : OpenClaim := { program := "ytadmbjneagdfdaa", sum := "60bdbd8784b857908a6ffbb4bedc0afe7ef13a8539b793f1c4968a67c218b36e", func := "loop.example/g01323/laws.FnExactGraphOf", spec := "fnExactGraphOf", unfollowed := true, recurses := true, apart := false, narrowed := true }
def FnExactGraphOfUptoSaid : Prop := fnExactGraphOfUptoRow.holds Try.pinned (OpenSpec.upto fnExactGraphOfSpec)

/-- 'laws.FnExactCountTuples', WHERE WHAT IT READS IS OF BULK AT MOST 1048576: true; the input reads as it did. -/
def fnExactCountTuplesUptoRow : OpenClaim := { program := "ytadmbjneagdfdaa", sum := "60bdbd8784b857908a6ffbb4bedc0afe7ef13a8539b793f1c4968a67c218b36e", func := "loop.example/g01323/laws.FnExactCountTuples", spec := "fnExactCountTuples", apart := false, narrowed := true }
def FnExactCountTuplesUptoSaid : Prop := fnExactCountTuplesUptoRow.holds Try.pinned (OpenSpec.upto fnExactCountTuplesSpec)

/-- 'laws.FnExactIsUnary', WHERE WHAT IT READS IS OF BULK AT MOST 1048576: true; the input reads as it did. -/
def fnExactIsUnaryUptoRow : OpenClaim := { program := "ytadmbjneagdfdaa", sum := "60bdbd8784b857908a6ffbb4bedc0afe7ef13a8539b793f1c4968a67c218b36e", func := "loop.example/g01323/laws.FnExactIsUnary", spec := "fnExactIsUnary", apart := false, narrowed := true }
def FnExactIsUnaryUptoSaid : Prop := fnExactIsUnaryUptoRow.holds Try.pinned (OpenSpec.upto fnExactIsUnarySpec)

/-- 'laws.FnExactProductOf', WHERE WHAT IT READS IS OF BULK AT MOST 1048576: true; the input reads as it did. -/
def fnExactProductOfUptoRow : OpenClaim := { program := "ytadmbjneagdfdaa", sum := "60bdbd8784b857908a6ffbb4bedc0afe7ef13a8539b793f1c4968a67c218b36e", func := "loop.example/g01323/laws.FnExactProductOf", spec := "fnExactProductOf", unfollowed := true, recurses := true, apart := false, narrowed := true }
def FnExactProductOfUptoSaid : Prop := fnExactProductOfUptoRow.holds Try.pinned (OpenSpec.upto fnExactProductOfSpec)

/-- 'laws.FnExactIsRegular', WHERE WHAT IT READS IS OF BULK AT MOST 1048576: true; the input reads as it did. -/
def fnExactIsRegularUptoRow : OpenClaim := { program := "ytadmbjneagdfdaa", sum := "60bdbd8784b857908a6ffbb4bedc0afe7ef13a8539b793f1c4968a67c218b36e", func := "loop.example/g01323/laws.FnExactIsRegular", spec := "fnExactIsRegular", apart := false, narrowed := true }
def FnExactIsRegularUptoSaid : Prop := fnExactIsRegularUptoRow.holds Try.pinned (OpenSpec.upto fnExactIsRegularSpec)

end Rows
end Go.Proofs.Ytadmbjneagdfdaa
