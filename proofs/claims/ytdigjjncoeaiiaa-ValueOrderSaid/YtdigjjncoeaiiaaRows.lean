/-
  NARROWER THAN 'FOR EVERY INPUT', by the rows' own cells (each row's printed sentence says how): ValueMatchesReference: loops · ValueNodes: loops · ValueVariables: loops · ValueReader: loops · ValueRounds: loops · ValueOrder: loops · ValueCurves: loops.
  DERIVED. THE GIVEN ROWS OF THIS SEAT. 7 by the template 'for every input the law returns true; each argument reads behind the call as it read before'; 0 by the template 'total and deterministic' (their statements: YtdigjjncoeaiiaaTotals.lean).
  GIVEN WITH THE SEED: the statements are not yours to turn. If you find one false, say at which input.
  Laid BY PROGRAM, IN A SANDBOX (cutbox-rows.mjs): the forced cells as the released guide's own fill.sh prints them over the translation a15c7604beedd132… (all of the seat's roots in one cut). By AI agents, Wed Nov 11 2026. No macro, syntax, notation, axiom, sorry.
-/
import Derived.Test.YtdigjjncoeaiiaaChecked
import GoSem.Claim
import GoSem.ClaimJoined
import GoSem.ClaimMapViews
import Derived.JoinedTies
import Derived.KernelRfl
namespace Go.Proofs.Ytdigjjncoeaiiaa
/- THE CELL 'sum', in the pinned program and in every row, IS THE sha256 OF THE DUMP (.gsa) THAT YtdigjjncoeaiiaaProg.lean LOADS. Nothing in Lean hashes anything: it is a label: what it is worth is what the hold of that sum in a sandbox is worth. -/
noncomputable def Try.pinned : Pinned := { name := "ytdigjjncoeaiiaa", sum := "a15c7604beedd1324d953977bcf3400fcb14cb96ea2150e583d7e3af25435d4d", checked := Try.checked }
namespace Rows
def none {H : Type} : Left H := { results := [], args := [] }

/-- 'formelaw14.ValueMatchesReference': WHATEVER THE INPUT: true; the input reads as it did. -/
def valueMatchesReferenceSpec : ChangeSpec := { name := "valueMatchesReference", fn := fun _ => fun
  | [d1, d2, d3, d4, d5] => { results := [.lit (.bool true)], args := [d1, d2, d3, d4, d5] }
  | _ => none }
def valueMatchesReferenceRow : OpenClaim := { program := "ytdigjjncoeaiiaa", sum := "a15c7604beedd1324d953977bcf3400fcb14cb96ea2150e583d7e3af25435d4d", func := "forme/formelaw14.ValueMatchesReference", spec := "valueMatchesReference", unfollowed := true, recurses := true, loops := true, apart := false }
def ValueMatchesReferenceSaid : Prop := valueMatchesReferenceRow.holds Try.pinned (OpenSpec.ofChange valueMatchesReferenceSpec)

/-- ITS FALSE NEIGHBOUR: 'it returns false'. Refute it at one input. -/
def valueMatchesReferenceWrong : ChangeSpec := { name := "valueMatchesReference", fn := fun _ => fun
  | [d1, d2, d3, d4, d5] => { results := [.lit (.bool false)], args := [d1, d2, d3, d4, d5] }
  | _ => none }
def ValueMatchesReferenceWrongFalsely : Prop := valueMatchesReferenceRow.holds Try.pinned (OpenSpec.ofChange valueMatchesReferenceWrong)

/-- 'formelaw14.ValueNodes': WHATEVER THE INPUT: true; the input reads as it did. -/
def valueNodesSpec : ChangeSpec := { name := "valueNodes", fn := fun _ => fun
  | [d1, d2, d3, d4, d5, d6, d7] => { results := [.lit (.bool true)], args := [d1, d2, d3, d4, d5, d6, d7] }
  | _ => none }
def valueNodesRow : OpenClaim := { program := "ytdigjjncoeaiiaa", sum := "a15c7604beedd1324d953977bcf3400fcb14cb96ea2150e583d7e3af25435d4d", func := "forme/formelaw14.ValueNodes", spec := "valueNodes", unfollowed := true, recurses := true, loops := true, apart := false }
def ValueNodesSaid : Prop := valueNodesRow.holds Try.pinned (OpenSpec.ofChange valueNodesSpec)

/-- ITS FALSE NEIGHBOUR: 'it returns false'. Refute it at one input. -/
def valueNodesWrong : ChangeSpec := { name := "valueNodes", fn := fun _ => fun
  | [d1, d2, d3, d4, d5, d6, d7] => { results := [.lit (.bool false)], args := [d1, d2, d3, d4, d5, d6, d7] }
  | _ => none }
def ValueNodesWrongFalsely : Prop := valueNodesRow.holds Try.pinned (OpenSpec.ofChange valueNodesWrong)

/-- 'formelaw14.ValueVariables': WHATEVER THE INPUT: true; the input reads as it did. -/
def valueVariablesSpec : ChangeSpec := { name := "valueVariables", fn := fun _ => fun
  | [d1, d2, d3, d4, d5] => { results := [.lit (.bool true)], args := [d1, d2, d3, d4, d5] }
  | _ => none }
def valueVariablesRow : OpenClaim := { program := "ytdigjjncoeaiiaa", sum := "a15c7604beedd1324d953977bcf3400fcb14cb96ea2150e583d7e3af25435d4d", func := "forme/formelaw14.ValueVariables", spec := "valueVariables", unfollowed := true, recurses := true, loops := true, apart := false }
def ValueVariablesSaid : Prop := valueVariablesRow.holds Try.pinned (OpenSpec.ofChange valueVariablesSpec)

/-- ITS FALSE NEIGHBOUR: 'it returns false'. Refute it at one input. -/
def valueVariablesWrong : ChangeSpec := { name := "valueVariables", fn := fun _ => fun
  | [d1, d2, d3, d4, d5] => { results := [.lit (.bool false)], args := [d1, d2, d3, d4, d5] }
  | _ => none }
def ValueVariablesWrongFalsely : Prop := valueVariablesRow.holds Try.pinned (OpenSpec.ofChange valueVariablesWrong)

/-- 'formelaw14.ValueReader': WHATEVER THE INPUT: true; the input reads as it did. -/
def valueReaderSpec : ChangeSpec := { name := "valueReader", fn := fun _ => fun
  | [d1, d2, d3, d4, d5, d6] => { results := [.lit (.bool true)], args := [d1, d2, d3, d4, d5, d6] }
  | _ => none }
def valueReaderRow : OpenClaim := { program := "ytdigjjncoeaiiaa", sum := "a15c7604beedd1324d953977bcf3400fcb14cb96ea2150e583d7e3af25435d4d", func := "forme/formelaw14.ValueReader", spec := "valueReader", unfollowed := true, recurses := true, loops := true, apart := false }
def ValueReaderSaid : Prop := valueReaderRow.holds Try.pinned (OpenSpec.ofChange valueReaderSpec)

/-- ITS FALSE NEIGHBOUR: 'it returns false'. Refute it at one input. -/
def valueReaderWrong : ChangeSpec := { name := "valueReader", fn := fun _ => fun
  | [d1, d2, d3, d4, d5, d6] => { results := [.lit (.bool false)], args := [d1, d2, d3, d4, d5, d6] }
  | _ => none }
def ValueReaderWrongFalsely : Prop := valueReaderRow.holds Try.pinned (OpenSpec.ofChange valueReaderWrong)

/-- 'formelaw14.ValueRounds': WHATEVER THE INPUT: true; the input reads as it did. -/
def valueRoundsSpec : ChangeSpec := { name := "valueRounds", fn := fun _ => fun
  | [d1, d2, d3, d4, d5] => { results := [.lit (.bool true)], args := [d1, d2, d3, d4, d5] }
  | _ => none }
def valueRoundsRow : OpenClaim := { program := "ytdigjjncoeaiiaa", sum := "a15c7604beedd1324d953977bcf3400fcb14cb96ea2150e583d7e3af25435d4d", func := "forme/formelaw14.ValueRounds", spec := "valueRounds", unfollowed := true, recurses := true, loops := true, apart := false }
def ValueRoundsSaid : Prop := valueRoundsRow.holds Try.pinned (OpenSpec.ofChange valueRoundsSpec)

/-- ITS FALSE NEIGHBOUR: 'it returns false'. Refute it at one input. -/
def valueRoundsWrong : ChangeSpec := { name := "valueRounds", fn := fun _ => fun
  | [d1, d2, d3, d4, d5] => { results := [.lit (.bool false)], args := [d1, d2, d3, d4, d5] }
  | _ => none }
def ValueRoundsWrongFalsely : Prop := valueRoundsRow.holds Try.pinned (OpenSpec.ofChange valueRoundsWrong)

/-- 'formelaw14.ValueOrder': WHATEVER THE INPUT: true; the input reads as it did. -/
def valueOrderSpec : ChangeSpec := { name := "valueOrder", fn := fun _ => fun
  | [d1, d2, d3, d4, d5] => { results := [.lit (.bool true)], args := [d1, d2, d3, d4, d5] }
  | _ => none }
def valueOrderRow : OpenClaim := { program := "ytdigjjncoeaiiaa", sum := "a15c7604beedd1324d953977bcf3400fcb14cb96ea2150e583d7e3af25435d4d", func := "forme/formelaw14.ValueOrder", spec := "valueOrder", unfollowed := true, recurses := true, loops := true, apart := false }
def ValueOrderSaid : Prop := valueOrderRow.holds Try.pinned (OpenSpec.ofChange valueOrderSpec)

/-- ITS FALSE NEIGHBOUR: 'it returns false'. Refute it at one input. -/
def valueOrderWrong : ChangeSpec := { name := "valueOrder", fn := fun _ => fun
  | [d1, d2, d3, d4, d5] => { results := [.lit (.bool false)], args := [d1, d2, d3, d4, d5] }
  | _ => none }
def ValueOrderWrongFalsely : Prop := valueOrderRow.holds Try.pinned (OpenSpec.ofChange valueOrderWrong)

/-- 'formelaw14.ValueCurves': WHATEVER THE INPUT: true; the input reads as it did. -/
def valueCurvesSpec : ChangeSpec := { name := "valueCurves", fn := fun _ => fun
  | [d1, d2, d3, d4] => { results := [.lit (.bool true)], args := [d1, d2, d3, d4] }
  | _ => none }
def valueCurvesRow : OpenClaim := { program := "ytdigjjncoeaiiaa", sum := "a15c7604beedd1324d953977bcf3400fcb14cb96ea2150e583d7e3af25435d4d", func := "forme/formelaw14.ValueCurves", spec := "valueCurves", unfollowed := true, recurses := true, loops := true, apart := false }
def ValueCurvesSaid : Prop := valueCurvesRow.holds Try.pinned (OpenSpec.ofChange valueCurvesSpec)

/-- ITS FALSE NEIGHBOUR: 'it returns false'. Refute it at one input. -/
def valueCurvesWrong : ChangeSpec := { name := "valueCurves", fn := fun _ => fun
  | [d1, d2, d3, d4] => { results := [.lit (.bool false)], args := [d1, d2, d3, d4] }
  | _ => none }
def ValueCurvesWrongFalsely : Prop := valueCurvesRow.holds Try.pinned (OpenSpec.ofChange valueCurvesWrong)

/- THE SECOND FORM. 'bulk': how many values and letters a reading holds, each counted each time it is reached (what is shared counts as often as it is met; a slice's spare places count too). A statement '..UptoSaid' is the law's where the arguments, and the package variables that the reading takes, are together of bulk at most 1048576: NARROWER than '..Said'. Prove '..Said' where nothing that the law and all that it calls make is longer than what came in: it says more and counts as full. Else prove '..UptoSaid'. A law counts once. -/
mutual
def uptoBulk {H : Type} : DataW H → Nat
  | .lit (.string bytes) => bytes.length + 1
  | .lit _ => 1
  | .nil => 1
  | .ptr d => uptoBulk d + 1
  | .slice elems spare => uptoBulkAll elems + uptoBulkAll spare + 1
  | .agg parts => uptoBulkAll parts + 1
  | .iface _ d => uptoBulk d + 1
  | .map entries => uptoBulkEntries entries + 1
  | .held _ => 1
def uptoBulkAll {H : Type} : List (DataW H) → Nat
  | [] => 0
  | d :: r => uptoBulk d + uptoBulkAll r
def uptoBulkEntries {H : Type} : List (Lit × DataW H) → Nat
  | [] => 0
  | x :: r => uptoBulkEntry x + uptoBulkEntries r
def uptoBulkEntry {H : Type} : Lit × DataW H → Nat
  | (.string bytes, d) => bytes.length + uptoBulk d + 1
  | (_, d) => uptoBulk d + 1
 end
def uptoSmall : (H : Type) → List (DataW H) → Bool := fun _ ds => decide (uptoBulkAll ds ≤ 1048576)
def OpenSpec.upto (s : _root_.Go.ChangeSpec) : _root_.Go.OpenSpec := { _root_.Go.OpenSpec.ofChange s with cond := some uptoSmall }

/-- 'formelaw14.ValueMatchesReference', WHERE WHAT IT READS IS OF BULK AT MOST 1048576: true; the input reads as it did. -/
def valueMatchesReferenceUptoRow : OpenClaim := { program := "ytdigjjncoeaiiaa", sum := "a15c7604beedd1324d953977bcf3400fcb14cb96ea2150e583d7e3af25435d4d", func := "forme/formelaw14.ValueMatchesReference", spec := "valueMatchesReference", unfollowed := true, recurses := true, loops := true, apart := false, narrowed := true }
def ValueMatchesReferenceUptoSaid : Prop := valueMatchesReferenceUptoRow.holds Try.pinned (OpenSpec.upto valueMatchesReferenceSpec)

/-- 'formelaw14.ValueNodes', WHERE WHAT IT READS IS OF BULK AT MOST 1048576: true; the input reads as it did. -/
def valueNodesUptoRow : OpenClaim := { program := "ytdigjjncoeaiiaa", sum := "a15c7604beedd1324d953977bcf3400fcb14cb96ea2150e583d7e3af25435d4d", func := "forme/formelaw14.ValueNodes", spec := "valueNodes", unfollowed := true, recurses := true, loops := true, apart := false, narrowed := true }
def ValueNodesUptoSaid : Prop := valueNodesUptoRow.holds Try.pinned (OpenSpec.upto valueNodesSpec)

/-- 'formelaw14.ValueVariables', WHERE WHAT IT READS IS OF BULK AT MOST 1048576: true; the input reads as it did. -/
def valueVariablesUptoRow : OpenClaim := { program := "ytdigjjncoeaiiaa", sum := "a15c7604beedd1324d953977bcf3400fcb14cb96ea2150e583d7e3af25435d4d", func := "forme/formelaw14.ValueVariables", spec := "valueVariables", unfollowed := true, recurses := true, loops := true, apart := false, narrowed := true }
def ValueVariablesUptoSaid : Prop := valueVariablesUptoRow.holds Try.pinned (OpenSpec.upto valueVariablesSpec)

/-- 'formelaw14.ValueReader', WHERE WHAT IT READS IS OF BULK AT MOST 1048576: true; the input reads as it did. -/
def valueReaderUptoRow : OpenClaim := { program := "ytdigjjncoeaiiaa", sum := "a15c7604beedd1324d953977bcf3400fcb14cb96ea2150e583d7e3af25435d4d", func := "forme/formelaw14.ValueReader", spec := "valueReader", unfollowed := true, recurses := true, loops := true, apart := false, narrowed := true }
def ValueReaderUptoSaid : Prop := valueReaderUptoRow.holds Try.pinned (OpenSpec.upto valueReaderSpec)

/-- 'formelaw14.ValueRounds', WHERE WHAT IT READS IS OF BULK AT MOST 1048576: true; the input reads as it did. -/
def valueRoundsUptoRow : OpenClaim := { program := "ytdigjjncoeaiiaa", sum := "a15c7604beedd1324d953977bcf3400fcb14cb96ea2150e583d7e3af25435d4d", func := "forme/formelaw14.ValueRounds", spec := "valueRounds", unfollowed := true, recurses := true, loops := true, apart := false, narrowed := true }
def ValueRoundsUptoSaid : Prop := valueRoundsUptoRow.holds Try.pinned (OpenSpec.upto valueRoundsSpec)

/-- 'formelaw14.ValueOrder', WHERE WHAT IT READS IS OF BULK AT MOST 1048576: true; the input reads as it did. -/
def valueOrderUptoRow : OpenClaim := { program := "ytdigjjncoeaiiaa", sum := "a15c7604beedd1324d953977bcf3400fcb14cb96ea2150e583d7e3af25435d4d", func := "forme/formelaw14.ValueOrder", spec := "valueOrder", unfollowed := true, recurses := true, loops := true, apart := false, narrowed := true }
def ValueOrderUptoSaid : Prop := valueOrderUptoRow.holds Try.pinned (OpenSpec.upto valueOrderSpec)

/-- 'formelaw14.ValueCurves', WHERE WHAT IT READS IS OF BULK AT MOST 1048576: true; the input reads as it did. -/
def valueCurvesUptoRow : OpenClaim := { program := "ytdigjjncoeaiiaa", sum := "a15c7604beedd1324d953977bcf3400fcb14cb96ea2150e583d7e3af25435d4d", func := "forme/formelaw14.ValueCurves", spec := "valueCurves", unfollowed := true, recurses := true, loops := true, apart := false, narrowed := true }
def ValueCurvesUptoSaid : Prop := valueCurvesUptoRow.holds Try.pinned (OpenSpec.upto valueCurvesSpec)

end Rows
end Go.Proofs.Ytdigjjncoeaiiaa
