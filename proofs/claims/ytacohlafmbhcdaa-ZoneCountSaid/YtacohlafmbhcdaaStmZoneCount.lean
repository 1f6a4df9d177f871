/- Printed by a program of this session (wip/gprint.py) over the translation. Not trusted: Lean checks it. -/
import Derived.Test.YtacohlafmbhcdaaPAlld1
import Derived.Test.YtacohlafmbhcdaaGopen
namespace Go.Proofs.Ytacohlafmbhcdaa.ZoneCountStm
open Go.RowKit Go.Proofs.Ytacohlafmbhcdaa.PAll Go.Proofs.YtacohlafmbhcdaaW.PrintWords Go.Proofs.YtacohlafmbhcdaaW.PrintLast Go.Proofs.YtacohlafmbhcdaaW.PrintMore Go.Proofs.YtacohlafmbhcdaaGopen
set_option linter.unusedVariables false
def okS33 (x : S33) : Prop := (Lit.int .i64 x.f0).wf = true ∧ (Lit.int .i64 x.f1).wf = true
theorem opS33 : ∀ n, OpensF Try.prog n 33 k33 okS33 := by
  intro n
  cases n with
  | zero => exact opensF_zero
  | succ n => exact opensF_struct (fun x : S33 => (x.f0, x.f1)) (fun p => ⟨p.1, p.2⟩) (fun _ => rfl) Try.underlying33 (by kernel_rfl) (opensL_cons rfl (by kernel_rfl) ((fun n => opensF_int (n := n) Try.underlying3) n) (opensL_last rfl (by kernel_rfl) ((fun n => opensF_int (n := n) Try.underlying3) n)))
def okS35 (x : S35) : Prop := (Lit.int .i64 x.f0).wf = true ∧ okS33 x.f1 ∧ okS33 x.f2
theorem opS35 : ∀ n, OpensF Try.prog n 35 k35 okS35 := by
  intro n
  cases n with
  | zero => exact opensF_zero
  | succ n => exact opensF_struct (fun x : S35 => (x.f0, x.f1, x.f2)) (fun p => ⟨p.1, p.2.1, p.2.2⟩) (fun _ => rfl) Try.underlying35 (by kernel_rfl) (opensL_cons rfl (by kernel_rfl) ((fun n => opensF_int (n := n) Try.underlying3) n) (opensL_cons rfl (by kernel_rfl) (opS33 n) (opensL_last rfl (by kernel_rfl) (opS33 n))))
def okL22 (xs : List S35) : Prop := xs.length * 40 ≤ 140737488351232 ∧ ∀ x ∈ xs, okS35 x
theorem opL22 : ∀ n, OpensF Try.prog n 22 (Kd.slice 35 k35) okL22 := by
  intro n
  cases n with
  | zero => exact opensF_zero
  | succ n => exact opensF_slice (b := 40) Try.underlying22 (by kernel_rfl) (by kernel_rfl) (opS35 n)
/-- THE ONE PLAIN STATEMENT of forme/formelaw03.ZoneCount. -/
def Pure : Prop := ∀ (l0 : List S35), okL22 l0 → ∃ k, formelaw03_ZoneCount.f k l0 = some true
end Go.Proofs.Ytacohlafmbhcdaa.ZoneCountStm
