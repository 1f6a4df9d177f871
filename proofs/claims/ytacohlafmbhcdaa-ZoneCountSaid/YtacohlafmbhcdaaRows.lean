/-
  No cell of these rows narrows 'for every input' (looked for: loops, veiled, ifaces, maps, wideKeys, modest, calm, conditions, laid).
  DERIVED. THE GIVEN ROWS OF THIS SEAT. 6 by the template 'for every input the law returns true; each argument reads behind the call as it read before'; 0 by the template 'total and deterministic' (their statements: YtacohlafmbhcdaaTotals.lean).
  GIVEN WITH THE SEED: the statements are not yours to turn. If you find one false, say at which input.
  Laid BY PROGRAM, IN A SANDBOX (cutbox-rows.mjs): the forced cells as the released guide's own fill.sh prints them over the translation 0a864b61c31643d8… (all of the seat's roots in one cut). By AI agents, Wed Nov 11 2026. No macro, syntax, notation, axiom, sorry.
-/
import Derived.Test.YtacohlafmbhcdaaChecked
import GoSem.Claim
import GoSem.ClaimJoined
import GoSem.ClaimMapViews
import Derived.JoinedTies
import Derived.KernelRfl
namespace Go.Proofs.Ytacohlafmbhcdaa
/- THE CELL 'sum', in the pinned program and in every row, IS THE sha256 OF THE DUMP (.gsa) THAT YtacohlafmbhcdaaProg.lean LOADS. Nothing in Lean hashes anything: it is a label: what it is worth is what the hold of that sum in a sandbox is worth. -/
noncomputable def Try.pinned : Pinned := { name := "ytacohlafmbhcdaa", sum := "0a864b61c31643d81c5a90483dafa70c84248f844469685a7e80de173c788137", checked := Try.checked }
namespace Rows
def none {H : Type} : Left H := { results := [], args := [] }

/-- 'formelaw03.ZoneCanon': WHATEVER THE INPUT: true; the input reads as it did. -/
def zoneCanonSpec : ChangeSpec := { name := "zoneCanon", fn := fun _ => fun
  | [d1, d2] => { results := [.lit (.bool true)], args := [d1, d2] }
  | _ => none }
def zoneCanonRow : OpenClaim := { program := "ytacohlafmbhcdaa", sum := "0a864b61c31643d81c5a90483dafa70c84248f844469685a7e80de173c788137", func := "forme/formelaw03.ZoneCanon", spec := "zoneCanon", unfollowed := true, recurses := true, apart := false }
def ZoneCanonSaid : Prop := zoneCanonRow.holds Try.pinned (OpenSpec.ofChange zoneCanonSpec)

/-- ITS FALSE NEIGHBOUR: 'it returns false'. Refute it at one input. -/
def zoneCanonWrong : ChangeSpec := { name := "zoneCanon", fn := fun _ => fun
  | [d1, d2] => { results := [.lit (.bool false)], args := [d1, d2] }
  | _ => none }
def ZoneCanonWrongFalsely : Prop := zoneCanonRow.holds Try.pinned (OpenSpec.ofChange zoneCanonWrong)

/-- 'formelaw03.ZoneOne': WHATEVER THE INPUT: true; the input reads as it did. -/
def zoneOneSpec : ChangeSpec := { name := "zoneOne", fn := fun _ => fun
  | [d1, d2, d3, d4, d5] => { results := [.lit (.bool true)], args := [d1, d2, d3, d4, d5] }
  | _ => none }
def zoneOneRow : OpenClaim := { program := "ytacohlafmbhcdaa", sum := "0a864b61c31643d81c5a90483dafa70c84248f844469685a7e80de173c788137", func := "forme/formelaw03.ZoneOne", spec := "zoneOne", unfollowed := true, recurses := true, apart := false }
def ZoneOneSaid : Prop := zoneOneRow.holds Try.pinned (OpenSpec.ofChange zoneOneSpec)

/-- ITS FALSE NEIGHBOUR: 'it returns false'. Refute it at one input. -/
def zoneOneWrong : ChangeSpec := { name := "zoneOne", fn := fun _ => fun
  | [d1, d2, d3, d4, d5] => { results := [.lit (.bool false)], args := [d1, d2, d3, d4, d5] }
  | _ => none }
def ZoneOneWrongFalsely : Prop := zoneOneRow.holds Try.pinned (OpenSpec.ofChange zoneOneWrong)

/-- 'formelaw03.ZoneLeast': WHATEVER THE INPUT: true; the input reads as it did. -/
def zoneLeastSpec : ChangeSpec := { name := "zoneLeast", fn := fun _ => fun
  | [d1, d2] => { results := [.lit (.bool true)], args := [d1, d2] }
  | _ => none }
def zoneLeastRow : OpenClaim := { program := "ytacohlafmbhcdaa", sum := "0a864b61c31643d81c5a90483dafa70c84248f844469685a7e80de173c788137", func := "forme/formelaw03.ZoneLeast", spec := "zoneLeast", unfollowed := true, recurses := true, apart := false }
def ZoneLeastSaid : Prop := zoneLeastRow.holds Try.pinned (OpenSpec.ofChange zoneLeastSpec)

/-- ITS FALSE NEIGHBOUR: 'it returns false'. Refute it at one input. -/
def zoneLeastWrong : ChangeSpec := { name := "zoneLeast", fn := fun _ => fun
  | [d1, d2] => { results := [.lit (.bool false)], args := [d1, d2] }
  | _ => none }
def ZoneLeastWrongFalsely : Prop := zoneLeastRow.holds Try.pinned (OpenSpec.ofChange zoneLeastWrong)

/-- 'formelaw03.ZoneCount': WHATEVER THE INPUT: true; the input reads as it did. -/
def zoneCountSpec : ChangeSpec := { name := "zoneCount", fn := fun _ => fun
  | [d] => { results := [.lit (.bool true)], args := [d] }
  | _ => none }
def zoneCountRow : OpenClaim := { program := "ytacohlafmbhcdaa", sum := "0a864b61c31643d81c5a90483dafa70c84248f844469685a7e80de173c788137", func := "forme/formelaw03.ZoneCount", spec := "zoneCount", unfollowed := true, recurses := true, apart := false }
def ZoneCountSaid : Prop := zoneCountRow.holds Try.pinned (OpenSpec.ofChange zoneCountSpec)

/-- ITS FALSE NEIGHBOUR: 'it returns false'. Refute it at one input. -/
def zoneCountWrong : ChangeSpec := { name := "zoneCount", fn := fun _ => fun
  | [d] => { results := [.lit (.bool false)], args := [d] }
  | _ => none }
def ZoneCountWrongFalsely : Prop := zoneCountRow.holds Try.pinned (OpenSpec.ofChange zoneCountWrong)

/-- 'formelaw03.ZoneSets': WHATEVER THE INPUT: true; the input reads as it did. -/
def zoneSetsSpec : ChangeSpec := { name := "zoneSets", fn := fun _ => fun
  | [d1, d2, d3] => { results := [.lit (.bool true)], args := [d1, d2, d3] }
  | _ => none }
def zoneSetsRow : OpenClaim := { program := "ytacohlafmbhcdaa", sum := "0a864b61c31643d81c5a90483dafa70c84248f844469685a7e80de173c788137", func := "forme/formelaw03.ZoneSets", spec := "zoneSets", unfollowed := true, recurses := true, apart := false }
def ZoneSetsSaid : Prop := zoneSetsRow.holds Try.pinned (OpenSpec.ofChange zoneSetsSpec)

/-- ITS FALSE NEIGHBOUR: 'it returns false'. Refute it at one input. -/
def zoneSetsWrong : ChangeSpec := { name := "zoneSets", fn := fun _ => fun
  | [d1, d2, d3] => { results := [.lit (.bool false)], args := [d1, d2, d3] }
  | _ => none }
def ZoneSetsWrongFalsely : Prop := zoneSetsRow.holds Try.pinned (OpenSpec.ofChange zoneSetsWrong)

/-- 'formelaw03.ZoneSums': WHATEVER THE INPUT: true; the input reads as it did. -/
def zoneSumsSpec : ChangeSpec := { name := "zoneSums", fn := fun _ => fun
  | [d1, d2] => { results := [.lit (.bool true)], args := [d1, d2] }
  | _ => none }
def zoneSumsRow : OpenClaim := { program := "ytacohlafmbhcdaa", sum := "0a864b61c31643d81c5a90483dafa70c84248f844469685a7e80de173c788137", func := "forme/formelaw03.ZoneSums", spec := "zoneSums", unfollowed := true, recurses := true, apart := false }
def ZoneSumsSaid : Prop := zoneSumsRow.holds Try.pinned (OpenSpec.ofChange zoneSumsSpec)

/-- ITS FALSE NEIGHBOUR: 'it returns false'. Refute it at one input. -/
def zoneSumsWrong : ChangeSpec := { name := "zoneSums", fn := fun _ => fun
  | [d1, d2] => { results := [.lit (.bool false)], args := [d1, d2] }
  | _ => none }
def ZoneSumsWrongFalsely : Prop := zoneSumsRow.holds Try.pinned (OpenSpec.ofChange zoneSumsWrong)

/- THE SECOND FORM. 'bulk': how many values and letters a reading holds, each counted each time it is reached (what is shared counts as often as it is met; a slice's spare places count too). A statement '..UptoSaid' is the law's where the arguments, and the package variables that the reading takes, are together of bulk at most 1048576: NARROWER than '..Said'. Prove '..Said' where nothing that the law and all that it calls make is longer than what came in: it says more and counts as full. Else prove '..UptoSaid'. A law counts once. -/
mutual
def uptoBulk {H : Type} : DataW H → Nat
  | .lit (.string bytes) => bytes.length + 1
  | .lit _ => 1
  | .nil => 1
  | .ptr d => uptoBulk d + 1
  | .slice elems spare => uptoBulkAll elems + uptoBulkAll spare + 1
  | .agg parts => uptoBulkAll parts + 1
  | .iface _ d => uptoBulk d + 1
  | .map entries => uptoBulkEntries entries + 1
  | .held _ => 1
def uptoBulkAll {H : Type} : List (DataW H) → Nat
  | [] => 0
  | d :: r => uptoBulk d + uptoBulkAll r
def uptoBulkEntries {H : Type} : List (Lit × DataW H) → Nat
  | [] => 0
  | x :: r => uptoBulkEntry x + uptoBulkEntries r
def uptoBulkEntry {H : Type} : Lit × DataW H → Nat
  | (.string bytes, d) => bytes.length + uptoBulk d + 1
  | (_, d) => uptoBulk d + 1
 end
def uptoSmall : (H : Type) → List (DataW H) → Bool := fun _ ds => decide (uptoBulkAll ds ≤ 1048576)
def OpenSpec.upto (s : _root_.Go.ChangeSpec) : _root_.Go.OpenSpec := { _root_.Go.OpenSpec.ofChange s with cond := some uptoSmall }

/-- 'formelaw03.ZoneCanon', WHERE WHAT IT READS IS OF BULK AT MOST 1048576: true; the input reads as it did. -/
def zoneCanonUptoRow : OpenClaim := { program := "ytacohlafmbhcdaa", sum := "0a864b61c31643d81c5a90483dafa70c84248f844469685a7e80de173c788137", func := "forme/formelaw03.ZoneCanon", spec := "zoneCanon", unfollowed := true, recurses := true, apart := false, narrowed := true }
def ZoneCanonUptoSaid : Prop := zoneCanonUptoRow.holds Try.pinned (OpenSpec.upto zoneCanonSpec)

/-- 'formelaw03.ZoneOne', WHERE WHAT IT READS IS OF BULK AT MOST 1048576: true; the input reads as it did. -/
def zoneOneUptoRow : OpenClaim := { program := "ytacohlafmbhcdaa", sum := "0a864b61c31643d81c5a90483dafa70c84248f844469685a7e80de173c788137", func := "forme/formelaw03.ZoneOne", spec := "zoneOne", unfollowed := true, recurses := true, apart := false, narrowed := true }
def ZoneOneUptoSaid : Prop := zoneOneUptoRow.holds Try.pinned (OpenSpec.upto zoneOneSpec)

/-- 'formelaw03.ZoneLeast', WHERE WHAT IT READS IS OF BULK AT MOST 1048576: true; the input reads as it did. -/
def zoneLeastUptoRow : OpenClaim := { program := "ytacohlafmbhcdaa", sum := "0a864b61c31643d81c5a90483dafa70c84248f844469685a7e80de173c788137", func := "forme/formelaw03.ZoneLeast", spec := "zoneLeast", unfollowed := true, recurses := true, apart := false, narrowed := true }
def ZoneLeastUptoSaid : Prop := zoneLeastUptoRow.holds Try.pinned (OpenSpec.upto zoneLeastSpec)

/-- 'formelaw03.ZoneCount', WHERE WHAT IT READS IS OF BULK AT MOST 1048576: true; the input reads as it did. -/
def zoneCountUptoRow : OpenClaim := { program := "ytacohlafmbhcdaa", sum := "0a864b61c31643d81c5a90483dafa70c84248f844469685a7e80de173c788137", func := "forme/formelaw03.ZoneCount", spec := "zoneCount", unfollowed := true, recurses := true, apart := false, narrowed := true }
def ZoneCountUptoSaid : Prop := zoneCountUptoRow.holds Try.pinned (OpenSpec.upto zoneCountSpec)

/-- 'formelaw03.ZoneSets', WHERE WHAT IT READS IS OF BULK AT MOST 1048576: true; the input reads as it did. -/
def zoneSetsUptoRow : OpenClaim := { program := "ytacohlafmbhcdaa", sum := "0a864b61c31643d81c5a90483dafa70c84248f844469685a7e80de173c788137", func := "forme/formelaw03.ZoneSets", spec := "zoneSets", unfollowed := true, recurses := true, apart := false, narrowed := true }
def ZoneSetsUptoSaid : Prop := zoneSetsUptoRow.holds Try.pinned (OpenSpec.upto zoneSetsSpec)

/-- 'formelaw03.ZoneSums', WHERE WHAT IT READS IS OF BULK AT MOST 1048576: true; the input reads as it did. -/
def zoneSumsUptoRow : OpenClaim := { program := "ytacohlafmbhcdaa", sum := "0a864b61c31643d81c5a90483dafa70c84248f844469685a7e80de173c788137", func := "forme/formelaw03.ZoneSums", spec := "zoneSums", unfollowed := true, recurses := true, apart := false, narrowed := true }
def ZoneSumsUptoSaid : Prop := zoneSumsUptoRow.holds Try.pinned (OpenSpec.upto zoneSumsSpec)

end Rows
end Go.Proofs.Ytacohlafmbhcdaa
