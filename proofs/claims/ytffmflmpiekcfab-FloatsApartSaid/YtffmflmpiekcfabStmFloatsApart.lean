/- Printed by a program of this session (wip/gprint.py) over the translation. Not trusted: Lean checks it. -/
import Derived.Test.YtffmflmpiekcfabPAllx19
import Derived.Test.YtffmflmpiekcfabGopen
namespace Go.Proofs.Ytffmflmpiekcfab.FloatsApartStm
open Go.RowKit Go.Proofs.Ytffmflmpiekcfab.PAll Go.Proofs.YtffmflmpiekcfabW.PrintWords Go.Proofs.YtffmflmpiekcfabW.PrintLast Go.Proofs.YtffmflmpiekcfabW.PrintMore Go.Proofs.YtffmflmpiekcfabGopen
set_option linter.unusedVariables false
def okS43 (x : S43) : Prop := (Lit.int .u8 x.f0).wf = true ∧ (Lit.int .u16 x.f1).wf = true ∧ (Lit.int .u16 x.f2).wf = true ∧ (Lit.int .u16 x.f3).wf = true
theorem opS43 : ∀ n, OpensF Try.prog n 43 k43 okS43 := by
  intro n
  cases n with
  | zero => exact opensF_zero
  | succ n => exact opensF_struct (fun x : S43 => (x.f0, x.f1, x.f2, x.f3)) (fun p => ⟨p.1, p.2.1, p.2.2.1, p.2.2.2⟩) (fun _ => rfl) Try.underlying43 (by kernel_rfl) (opensL_cons rfl (by kernel_rfl) ((fun n => opensF_int (n := n) Try.underlying5) n) (opensL_cons rfl (by kernel_rfl) ((fun n => opensF_int (n := n) Try.underlying37) n) (opensL_cons rfl (by kernel_rfl) ((fun n => opensF_int (n := n) Try.underlying37) n) (opensL_last rfl (by kernel_rfl) ((fun n => opensF_int (n := n) Try.underlying37) n)))))
def okL36 (xs : List S43) : Prop := xs.length * 8 ≤ 140737488351232 ∧ ∀ x ∈ xs, okS43 x
theorem opL36 : ∀ n, OpensF Try.prog n 36 (Kd.slice 43 k43) okL36 := by
  intro n
  cases n with
  | zero => exact opensF_zero
  | succ n => exact opensF_slice (b := 8) Try.underlying36 (by kernel_rfl) (by kernel_rfl) (opS43 n)
/-- THE ONE PLAIN STATEMENT of forme/formelaw20.FloatsApart. -/
def Pure : Prop := ∀ (l0 : List S43) (a1 : Int), okL36 l0 → (Lit.int .u16 a1).wf = true → ∃ k, formelaw20_FloatsApart.f k l0 a1 = some true
end Go.Proofs.Ytffmflmpiekcfab.FloatsApartStm
