/- Printed by a program of this session (wip/gprint.py) over the translation. Not trusted: Lean checks it. -/
import Derived.Test.YtffmflmpiekcfaaDoorPAlld0
import Derived.Test.YtffmflmpiekcfaaDoorGopen
namespace Go.Proofs.YtffmflmpiekcfaaDoor.DigestOneByteStm
open Go.RowKit Go.Proofs.YtffmflmpiekcfaaDoor.PAll Go.Proofs.YtffmflmpiekcfaaDoorW.PrintWords Go.Proofs.YtffmflmpiekcfaaDoorW.PrintLast Go.Proofs.YtffmflmpiekcfaaDoorW.PrintMore Go.Proofs.YtffmflmpiekcfaaDoorGopen
set_option linter.unusedVariables false
def okL22 (xs : List Int) : Prop := xs.length * 1 ≤ 140737488351232 ∧ ∀ x ∈ xs, (Lit.int .u8 x).wf = true
theorem opL22 : ∀ n, OpensF Tryd.prog n 22 (Kd.slice 5 (Kd.int .u8)) okL22 := by
  intro n
  cases n with
  | zero => exact opensF_zero
  | succ n => exact opensF_slice (b := 1) Tryd.underlying22 (by kernel_rfl) (by kernel_rfl) ((fun n => opensF_int (n := n) Tryd.underlying5) n)
/-- THE ONE PLAIN STATEMENT of forme/formelaw04.DigestOneByte. -/
def Pure : Prop := ∀ (l0 : List Int) (a1 : Int) (a2 : Int), okL22 l0 → (Lit.int .u16 a1).wf = true → (Lit.int .u8 a2).wf = true → ∃ k, formelaw04_DigestOneByte.f k l0 a1 a2 = some true
end Go.Proofs.YtffmflmpiekcfaaDoor.DigestOneByteStm
