/-
  No cell of these rows narrows 'for every input' (looked for: loops, veiled, ifaces, maps, wideKeys, modest, calm, conditions, laid).
  DERIVED. THE GIVEN ROWS OF THIS SEAT. 6 by the template 'for every input the law returns true; each argument reads behind the call as it read before'; 0 by the template 'total and deterministic' (their statements: YtffmflmpiekcfabTotals.lean).
  GIVEN WITH THE SEED: the statements are not yours to turn. If you find one false, say at which input.
  Laid BY PROGRAM, IN A SANDBOX (cutbox-rows.mjs): the forced cells as the released guide's own fill.sh prints them over the translation 4c4e7125bb8c6330… (all of the seat's roots in one cut). By AI agents, Wed Nov 11 2026. No macro, syntax, notation, axiom, sorry.
-/
import Derived.Test.YtffmflmpiekcfabChecked
import GoSem.Claim
import GoSem.ClaimJoined
import GoSem.ClaimMapViews
import Derived.JoinedTies
import Derived.KernelRfl
namespace Go.Proofs.Ytffmflmpiekcfab
/- THE CELL 'sum', in the pinned program and in every row, IS THE sha256 OF THE DUMP (.gsa) THAT YtffmflmpiekcfabProg.lean LOADS. Nothing in Lean hashes anything: it is a label: what it is worth is what the hold of that sum in a sandbox is worth. -/
noncomputable def Try.pinned : Pinned := { name := "ytffmflmpiekcfab", sum := "4c4e7125bb8c6330b16519948f8c2e8e2bb48e3746cd36a70be14e458db5b14b", checked := Try.checked }
namespace Rows
def none {H : Type} : Left H := { results := [], args := [] }

/-- 'formelaw20.FloatsMatchesReference': WHATEVER THE INPUT: true; the input reads as it did. -/
def floatsMatchesReferenceSpec : ChangeSpec := { name := "floatsMatchesReference", fn := fun _ => fun
  | [d1, d2, d3, d4, d5, d6] => { results := [.lit (.bool true)], args := [d1, d2, d3, d4, d5, d6] }
  | _ => none }
def floatsMatchesReferenceRow : OpenClaim := { program := "ytffmflmpiekcfab", sum := "4c4e7125bb8c6330b16519948f8c2e8e2bb48e3746cd36a70be14e458db5b14b", func := "forme/formelaw20.FloatsMatchesReference", spec := "floatsMatchesReference", unfollowed := true, recurses := true, apart := false }
def FloatsMatchesReferenceSaid : Prop := floatsMatchesReferenceRow.holds Try.pinned (OpenSpec.ofChange floatsMatchesReferenceSpec)

/-- ITS FALSE NEIGHBOUR: 'it returns false'. Refute it at one input. -/
def floatsMatchesReferenceWrong : ChangeSpec := { name := "floatsMatchesReference", fn := fun _ => fun
  | [d1, d2, d3, d4, d5, d6] => { results := [.lit (.bool false)], args := [d1, d2, d3, d4, d5, d6] }
  | _ => none }
def FloatsMatchesReferenceWrongFalsely : Prop := floatsMatchesReferenceRow.holds Try.pinned (OpenSpec.ofChange floatsMatchesReferenceWrong)

/-- 'formelaw20.FloatsApart': WHATEVER THE INPUT: true; the input reads as it did. -/
def floatsApartSpec : ChangeSpec := { name := "floatsApart", fn := fun _ => fun
  | [d1, d2] => { results := [.lit (.bool true)], args := [d1, d2] }
  | _ => none }
def floatsApartRow : OpenClaim := { program := "ytffmflmpiekcfab", sum := "4c4e7125bb8c6330b16519948f8c2e8e2bb48e3746cd36a70be14e458db5b14b", func := "forme/formelaw20.FloatsApart", spec := "floatsApart", unfollowed := true, recurses := true, apart := false }
def FloatsApartSaid : Prop := floatsApartRow.holds Try.pinned (OpenSpec.ofChange floatsApartSpec)

/-- ITS FALSE NEIGHBOUR: 'it returns false'. Refute it at one input. -/
def floatsApartWrong : ChangeSpec := { name := "floatsApart", fn := fun _ => fun
  | [d1, d2] => { results := [.lit (.bool false)], args := [d1, d2] }
  | _ => none }
def FloatsApartWrongFalsely : Prop := floatsApartRow.holds Try.pinned (OpenSpec.ofChange floatsApartWrong)

/-- 'formelaw20.FloatsHigh': WHATEVER THE INPUT: true; the input reads as it did. -/
def floatsHighSpec : ChangeSpec := { name := "floatsHigh", fn := fun _ => fun
  | [d1, d2, d3] => { results := [.lit (.bool true)], args := [d1, d2, d3] }
  | _ => none }
def floatsHighRow : OpenClaim := { program := "ytffmflmpiekcfab", sum := "4c4e7125bb8c6330b16519948f8c2e8e2bb48e3746cd36a70be14e458db5b14b", func := "forme/formelaw20.FloatsHigh", spec := "floatsHigh", unfollowed := true, recurses := true, apart := false }
def FloatsHighSaid : Prop := floatsHighRow.holds Try.pinned (OpenSpec.ofChange floatsHighSpec)

/-- ITS FALSE NEIGHBOUR: 'it returns false'. Refute it at one input. -/
def floatsHighWrong : ChangeSpec := { name := "floatsHigh", fn := fun _ => fun
  | [d1, d2, d3] => { results := [.lit (.bool false)], args := [d1, d2, d3] }
  | _ => none }
def FloatsHighWrongFalsely : Prop := floatsHighRow.holds Try.pinned (OpenSpec.ofChange floatsHighWrong)

/-- 'formelaw20.FloatsParts': WHATEVER THE INPUT: true; the input reads as it did. -/
def floatsPartsSpec : ChangeSpec := { name := "floatsParts", fn := fun _ => fun
  | [d1, d2, d3, d4, d5] => { results := [.lit (.bool true)], args := [d1, d2, d3, d4, d5] }
  | _ => none }
def floatsPartsRow : OpenClaim := { program := "ytffmflmpiekcfab", sum := "4c4e7125bb8c6330b16519948f8c2e8e2bb48e3746cd36a70be14e458db5b14b", func := "forme/formelaw20.FloatsParts", spec := "floatsParts", unfollowed := true, recurses := true, apart := false }
def FloatsPartsSaid : Prop := floatsPartsRow.holds Try.pinned (OpenSpec.ofChange floatsPartsSpec)

/-- ITS FALSE NEIGHBOUR: 'it returns false'. Refute it at one input. -/
def floatsPartsWrong : ChangeSpec := { name := "floatsParts", fn := fun _ => fun
  | [d1, d2, d3, d4, d5] => { results := [.lit (.bool false)], args := [d1, d2, d3, d4, d5] }
  | _ => none }
def FloatsPartsWrongFalsely : Prop := floatsPartsRow.holds Try.pinned (OpenSpec.ofChange floatsPartsWrong)

/-- 'formelaw20.FloatsFurther': WHATEVER THE INPUT: true; the input reads as it did. -/
def floatsFurtherSpec : ChangeSpec := { name := "floatsFurther", fn := fun _ => fun
  | [d1, d2, d3, d4, d5] => { results := [.lit (.bool true)], args := [d1, d2, d3, d4, d5] }
  | _ => none }
def floatsFurtherRow : OpenClaim := { program := "ytffmflmpiekcfab", sum := "4c4e7125bb8c6330b16519948f8c2e8e2bb48e3746cd36a70be14e458db5b14b", func := "forme/formelaw20.FloatsFurther", spec := "floatsFurther", unfollowed := true, recurses := true, apart := false }
def FloatsFurtherSaid : Prop := floatsFurtherRow.holds Try.pinned (OpenSpec.ofChange floatsFurtherSpec)

/-- ITS FALSE NEIGHBOUR: 'it returns false'. Refute it at one input. -/
def floatsFurtherWrong : ChangeSpec := { name := "floatsFurther", fn := fun _ => fun
  | [d1, d2, d3, d4, d5] => { results := [.lit (.bool false)], args := [d1, d2, d3, d4, d5] }
  | _ => none }
def FloatsFurtherWrongFalsely : Prop := floatsFurtherRow.holds Try.pinned (OpenSpec.ofChange floatsFurtherWrong)

/-- 'formelaw20.FloatsMirror': WHATEVER THE INPUT: true; the input reads as it did. -/
def floatsMirrorSpec : ChangeSpec := { name := "floatsMirror", fn := fun _ => fun
  | [d1, d2] => { results := [.lit (.bool true)], args := [d1, d2] }
  | _ => none }
def floatsMirrorRow : OpenClaim := { program := "ytffmflmpiekcfab", sum := "4c4e7125bb8c6330b16519948f8c2e8e2bb48e3746cd36a70be14e458db5b14b", func := "forme/formelaw20.FloatsMirror", spec := "floatsMirror", unfollowed := true, recurses := true, apart := false }
def FloatsMirrorSaid : Prop := floatsMirrorRow.holds Try.pinned (OpenSpec.ofChange floatsMirrorSpec)

/-- ITS FALSE NEIGHBOUR: 'it returns false'. Refute it at one input. -/
def floatsMirrorWrong : ChangeSpec := { name := "floatsMirror", fn := fun _ => fun
  | [d1, d2] => { results := [.lit (.bool false)], args := [d1, d2] }
  | _ => none }
def FloatsMirrorWrongFalsely : Prop := floatsMirrorRow.holds Try.pinned (OpenSpec.ofChange floatsMirrorWrong)

/- THE SECOND FORM. 'bulk': how many values and letters a reading holds, each counted each time it is reached (what is shared counts as often as it is met; a slice's spare places count too). A statement '..UptoSaid' is the law's where the arguments, and the package variables that the reading takes, are together of bulk at most 1048576: NARROWER than '..Said'. Prove '..Said' where nothing that the law and all that it calls make is longer than what came in: it says more and counts as full. Else prove '..UptoSaid'. A law counts once. -/
mutual
def uptoBulk {H : Type} : DataW H → Nat
  | .lit (.string bytes) => bytes.length + 1
  | .lit _ => 1
  | .nil => 1
  | .ptr d => uptoBulk d + 1
  | .slice elems spare => uptoBulkAll elems + uptoBulkAll spare + 1
  | .agg parts => uptoBulkAll parts + 1
  | .iface _ d => uptoBulk d + 1
  | .map entries => uptoBulkEntries entries + 1
  | .held _ => 1
def uptoBulkAll {H : Type} : List (DataW H) → Nat
  | [] => 0
  | d :: r => uptoBulk d + uptoBulkAll r
def uptoBulkEntries {H : Type} : List (Lit × DataW H) → Nat
  | [] => 0
  | x :: r => uptoBulkEntry x + uptoBulkEntries r
def uptoBulkEntry {H : Type} : Lit × DataW H → Nat
  | (.string bytes, d) => bytes.length + uptoBulk d + 1
  | (_, d) => uptoBulk d + 1
 end
def uptoSmall : (H : Type) → List (DataW H) → Bool := fun _ ds => decide (uptoBulkAll ds ≤ 1048576)
def OpenSpec.upto (s : _root_.Go.ChangeSpec) : _root_.Go.OpenSpec := { _root_.Go.OpenSpec.ofChange s with cond := some uptoSmall }

/-- 'formelaw20.FloatsMatchesReference', WHERE WHAT IT READS IS OF BULK AT MOST 1048576: true; the input reads as it did. -/
def floatsMatchesReferenceUptoRow : OpenClaim := { program := "ytffmflmpiekcfab", sum := "4c4e7125bb8c6330b16519948f8c2e8e2bb48e3746cd36a70be14e458db5b14b", func := "forme/formelaw20.FloatsMatchesReference", spec := "floatsMatchesReference", unfollowed := true, recurses := true, apart := false, narrowed := true }
def FloatsMatchesReferenceUptoSaid : Prop := floatsMatchesReferenceUptoRow.holds Try.pinned (OpenSpec.upto floatsMatchesReferenceSpec)

/-- 'formelaw20.FloatsApart', WHERE WHAT IT READS IS OF BULK AT MOST 1048576: true; the input reads as it did. -/
def floatsApartUptoRow : OpenClaim := { program := "ytffmflmpiekcfab", sum := "4c4e7125bb8c6330b16519948f8c2e8e2bb48e3746cd36a70be14e458db5b14b", func := "forme/formelaw20.FloatsApart", spec := "floatsApart", unfollowed := true, recurses := true, apart := false, narrowed := true }
def FloatsApartUptoSaid : Prop := floatsApartUptoRow.holds Try.pinned (OpenSpec.upto floatsApartSpec)

/-- 'formelaw20.FloatsHigh', WHERE WHAT IT READS IS OF BULK AT MOST 1048576: true; the input reads as it did. -/
def floatsHighUptoRow : OpenClaim := { program := "ytffmflmpiekcfab", sum := "4c4e7125bb8c6330b16519948f8c2e8e2bb48e3746cd36a70be14e458db5b14b", func := "forme/formelaw20.FloatsHigh", spec := "floatsHigh", unfollowed := true, recurses := true, apart := false, narrowed := true }
def FloatsHighUptoSaid : Prop := floatsHighUptoRow.holds Try.pinned (OpenSpec.upto floatsHighSpec)

/-- 'formelaw20.FloatsParts', WHERE WHAT IT READS IS OF BULK AT MOST 1048576: true; the input reads as it did. -/
def floatsPartsUptoRow : OpenClaim := { program := "ytffmflmpiekcfab", sum := "4c4e7125bb8c6330b16519948f8c2e8e2bb48e3746cd36a70be14e458db5b14b", func := "forme/formelaw20.FloatsParts", spec := "floatsParts", unfollowed := true, recurses := true, apart := false, narrowed := true }
def FloatsPartsUptoSaid : Prop := floatsPartsUptoRow.holds Try.pinned (OpenSpec.upto floatsPartsSpec)

/-- 'formelaw20.FloatsFurther', WHERE WHAT IT READS IS OF BULK AT MOST 1048576: true; the input reads as it did. -/
def floatsFurtherUptoRow : OpenClaim := { program := "ytffmflmpiekcfab", sum := "4c4e7125bb8c6330b16519948f8c2e8e2bb48e3746cd36a70be14e458db5b14b", func := "forme/formelaw20.FloatsFurther", spec := "floatsFurther", unfollowed := true, recurses := true, apart := false, narrowed := true }
def FloatsFurtherUptoSaid : Prop := floatsFurtherUptoRow.holds Try.pinned (OpenSpec.upto floatsFurtherSpec)

/-- 'formelaw20.FloatsMirror', WHERE WHAT IT READS IS OF BULK AT MOST 1048576: true; the input reads as it did. -/
def floatsMirrorUptoRow : OpenClaim := { program := "ytffmflmpiekcfab", sum := "4c4e7125bb8c6330b16519948f8c2e8e2bb48e3746cd36a70be14e458db5b14b", func := "forme/formelaw20.FloatsMirror", spec := "floatsMirror", unfollowed := true, recurses := true, apart := false, narrowed := true }
def FloatsMirrorUptoSaid : Prop := floatsMirrorUptoRow.holds Try.pinned (OpenSpec.upto floatsMirrorSpec)

end Rows
end Go.Proofs.Ytffmflmpiekcfab
