/- Printed by a program of this session (wip/gprint.py) over the translation. Not trusted: Lean checks it. -/
import Derived.Test.YtffmflmpiekcfaaDoorPAlld0
import Derived.Test.YtffmflmpiekcfaaDoorGopen
namespace Go.Proofs.YtffmflmpiekcfaaDoor.DigestMatchesReferenceStm
open Go.RowKit Go.Proofs.YtffmflmpiekcfaaDoor.PAll Go.Proofs.YtffmflmpiekcfaaDoorW.PrintWords Go.Proofs.YtffmflmpiekcfaaDoorW.PrintLast Go.Proofs.YtffmflmpiekcfaaDoorW.PrintMore Go.Proofs.YtffmflmpiekcfaaDoorGopen
set_option linter.unusedVariables false
def okL22 (xs : List Int) : Prop := xs.length * 1 ≤ 140737488351232 ∧ ∀ x ∈ xs, (Lit.int .u8 x).wf = true
theorem opL22 : ∀ n, OpensF Tryd.prog n 22 (Kd.slice 5 (Kd.int .u8)) okL22 := by
  intro n
  cases n with
  | zero => exact opensF_zero
  | succ n => exact opensF_slice (b := 1) Tryd.underlying22 (by kernel_rfl) (by kernel_rfl) ((fun n => opensF_int (n := n) Tryd.underlying5) n)
def okL24 (xs : List Int) : Prop := xs.length * 8 ≤ 140737488351232 ∧ ∀ x ∈ xs, (Lit.int .i64 x).wf = true
theorem opL24 : ∀ n, OpensF Tryd.prog n 24 (Kd.slice 3 (Kd.int .i64)) okL24 := by
  intro n
  cases n with
  | zero => exact opensF_zero
  | succ n => exact opensF_slice (b := 8) Tryd.underlying24 (by kernel_rfl) (by kernel_rfl) ((fun n => opensF_int (n := n) Tryd.underlying3) n)
def okL25 (xs : List Int) : Prop := xs.length * 8 ≤ 140737488351232 ∧ ∀ x ∈ xs, (Lit.int .u64 x).wf = true
theorem opL25 : ∀ n, OpensF Tryd.prog n 25 (Kd.slice 23 (Kd.int .u64)) okL25 := by
  intro n
  cases n with
  | zero => exact opensF_zero
  | succ n => exact opensF_slice (b := 8) Tryd.underlying25 (by kernel_rfl) (by kernel_rfl) ((fun n => opensF_int (n := n) Tryd.underlying23) n)
/-- THE ONE PLAIN STATEMENT of forme/formelaw04.DigestMatchesReference. -/
def Pure : Prop := ∀ (l0 : List Int) (a1 : Int) (l2 : List Int) (l3 : List Int) (a4 : Int) (a5 : Int) (l6 : List Int) (a7 : Int), okL22 l0 → (Lit.int .u64 a1).wf = true → okL24 l2 → okL25 l3 → (Lit.int .i64 a4).wf = true → (Lit.int .i64 a5).wf = true → okL25 l6 → (Lit.int .u8 a7).wf = true → formelaw04_DigestMatchesReference.f l0 a1 l2 l3 a4 a5 l6 a7 = some true
end Go.Proofs.YtffmflmpiekcfaaDoor.DigestMatchesReferenceStm
