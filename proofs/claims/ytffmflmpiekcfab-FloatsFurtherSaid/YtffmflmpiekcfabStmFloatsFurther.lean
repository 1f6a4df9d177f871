/- Printed by a program of this session (wip/gprint.py) over the translation. Not trusted: Lean checks it. -/
import Derived.Test.YtffmflmpiekcfabPAllx22
import Derived.Test.YtffmflmpiekcfabGopen
namespace Go.Proofs.Ytffmflmpiekcfab.FloatsFurtherStm
open Go.RowKit Go.Proofs.Ytffmflmpiekcfab.PAll Go.Proofs.YtffmflmpiekcfabW.PrintWords Go.Proofs.YtffmflmpiekcfabW.PrintLast Go.Proofs.YtffmflmpiekcfabW.PrintMore Go.Proofs.YtffmflmpiekcfabGopen
set_option linter.unusedVariables false
def okS41 (x : S41) : Prop := (Lit.int .i64 x.f0).wf = true ∧ (Lit.int .i64 x.f1).wf = true ∧ (Lit.int .i64 x.f2).wf = true ∧ (Lit.int .i64 x.f3).wf = true ∧ (Lit.int .i64 x.f4).wf = true
theorem opS41 : ∀ n, OpensF Try.prog n 41 k41 okS41 := by
  intro n
  cases n with
  | zero => exact opensF_zero
  | succ n => exact opensF_struct (fun x : S41 => (x.f0, x.f1, x.f2, x.f3, x.f4)) (fun p => ⟨p.1, p.2.1, p.2.2.1, p.2.2.2.1, p.2.2.2.2⟩) (fun _ => rfl) Try.underlying41 (by kernel_rfl) (opensL_cons rfl (by kernel_rfl) ((fun n => opensF_int (n := n) Try.underlying3) n) (opensL_cons rfl (by kernel_rfl) ((fun n => opensF_int (n := n) Try.underlying3) n) (opensL_cons rfl (by kernel_rfl) ((fun n => opensF_int (n := n) Try.underlying3) n) (opensL_cons rfl (by kernel_rfl) ((fun n => opensF_int (n := n) Try.underlying3) n) (opensL_last rfl (by kernel_rfl) ((fun n => opensF_int (n := n) Try.underlying3) n))))))
def okL22 (xs : List S41) : Prop := xs.length * 40 ≤ 140737488351232 ∧ ∀ x ∈ xs, okS41 x
theorem opL22 : ∀ n, OpensF Try.prog n 22 (Kd.slice 41 k41) okL22 := by
  intro n
  cases n with
  | zero => exact opensF_zero
  | succ n => exact opensF_slice (b := 40) Try.underlying22 (by kernel_rfl) (by kernel_rfl) (opS41 n)
/-- THE ONE PLAIN STATEMENT of forme/formelaw20.FloatsFurther. -/
def Pure : Prop := ∀ (l0 : List S41) (a1 : S41) (a2 : Int) (a3 : Int) (a4 : Int), okL22 l0 → okS41 a1 → (Lit.int .i64 a2).wf = true → (Lit.int .i64 a3).wf = true → (Lit.int .i64 a4).wf = true → ∃ k, formelaw20_FloatsFurther.f k l0 a1.f0 a1.f1 a1.f2 a1.f3 a1.f4 a2 a3 a4 = some true
end Go.Proofs.Ytffmflmpiekcfab.FloatsFurtherStm
