/- Printed by a program of this session (wip/gprint.py) over the translation. Not trusted: Lean checks it. -/
import Derived.Test.YtffmflmpiekcfaaDoorPAlld0
import Derived.Test.YtffmflmpiekcfaaDoorGopen
namespace Go.Proofs.YtffmflmpiekcfaaDoor.DigestTextsStm
open Go.RowKit Go.Proofs.YtffmflmpiekcfaaDoor.PAll Go.Proofs.YtffmflmpiekcfaaDoorW.PrintWords Go.Proofs.YtffmflmpiekcfaaDoorW.PrintLast Go.Proofs.YtffmflmpiekcfaaDoorW.PrintMore Go.Proofs.YtffmflmpiekcfaaDoorGopen
set_option linter.unusedVariables false
def okL24 (xs : List Int) : Prop := xs.length * 8 ≤ 140737488351232 ∧ ∀ x ∈ xs, (Lit.int .i64 x).wf = true
theorem opL24 : ∀ n, OpensF Tryd.prog n 24 (Kd.slice 3 (Kd.int .i64)) okL24 := by
  intro n
  cases n with
  | zero => exact opensF_zero
  | succ n => exact opensF_slice (b := 8) Tryd.underlying24 (by kernel_rfl) (by kernel_rfl) ((fun n => opensF_int (n := n) Tryd.underlying3) n)
def okL22 (xs : List Int) : Prop := xs.length * 1 ≤ 140737488351232 ∧ ∀ x ∈ xs, (Lit.int .u8 x).wf = true
theorem opL22 : ∀ n, OpensF Tryd.prog n 22 (Kd.slice 5 (Kd.int .u8)) okL22 := by
  intro n
  cases n with
  | zero => exact opensF_zero
  | succ n => exact opensF_slice (b := 1) Tryd.underlying22 (by kernel_rfl) (by kernel_rfl) ((fun n => opensF_int (n := n) Tryd.underlying5) n)
/-- THE ONE PLAIN STATEMENT of forme/formelaw04.DigestTexts. -/
def Pure : Prop := ∀ (a0 : Int) (l1 : List Int) (l2 : List Int) (l3 : List Int) (l4 : List Int), (Lit.int .u64 a0).wf = true → okL24 l1 → okL22 l2 → okL22 l3 → okL22 l4 → ∃ k, formelaw04_DigestTexts.f k a0 l1 l2 l3 l4 = some true
end Go.Proofs.YtffmflmpiekcfaaDoor.DigestTextsStm
