/- Printed by a program of this session (wip/gprint.py) over the translation. Not trusted: Lean checks it. -/
import Derived.Test.YtffmflmpiekcfaaDoorPAlld0
import Derived.Test.YtffmflmpiekcfaaDoorGopen
namespace Go.Proofs.YtffmflmpiekcfaaDoor.DigestLeadsStm
open Go.RowKit Go.Proofs.YtffmflmpiekcfaaDoor.PAll Go.Proofs.YtffmflmpiekcfaaDoorW.PrintWords Go.Proofs.YtffmflmpiekcfaaDoorW.PrintLast Go.Proofs.YtffmflmpiekcfaaDoorW.PrintMore Go.Proofs.YtffmflmpiekcfaaDoorGopen
set_option linter.unusedVariables false
def okL25 (xs : List Int) : Prop := xs.length * 8 ≤ 140737488351232 ∧ ∀ x ∈ xs, (Lit.int .u64 x).wf = true
theorem opL25 : ∀ n, OpensF Tryd.prog n 25 (Kd.slice 23 (Kd.int .u64)) okL25 := by
  intro n
  cases n with
  | zero => exact opensF_zero
  | succ n => exact opensF_slice (b := 8) Tryd.underlying25 (by kernel_rfl) (by kernel_rfl) ((fun n => opensF_int (n := n) Tryd.underlying23) n)
/-- THE ONE PLAIN STATEMENT of forme/formelaw04.DigestLeads. -/
def Pure : Prop := ∀ (l0 : List Int) (a1 : Int) (a2 : Int), okL25 l0 → (Lit.int .u16 a1).wf = true → (Lit.int .u64 a2).wf = true → ∃ k, formelaw04_DigestLeads.f k l0 a1 a2 = some true
end Go.Proofs.YtffmflmpiekcfaaDoor.DigestLeadsStm
