/- Printed by wip/gprint.py. -/
import Derived.Test.YtacohlafmbhcdaaGreatPAlld1
import Derived.Test.YtacohlafmbhcdaaGreatGopen
namespace Go.Proofs.YtacohlafmbhcdaaGreat.ZoneMatchesReferenceStm
open Go.RowKit Go.Proofs.YtacohlafmbhcdaaGreat.PAll Go.Proofs.YtacohlafmbhcdaaGreatW.PrintWords Go.Proofs.YtacohlafmbhcdaaGreatW.PrintLast Go.Proofs.YtacohlafmbhcdaaGreatW.PrintMore Go.Proofs.YtacohlafmbhcdaaGreatGopen
def okS40 (x : S40) : Prop := (Lit.int .i64 x.f0).wf = true ∧ (Lit.int .i64 x.f1).wf = true
theorem opS40 : ∀ n, OpensF Tryz.prog n 40 k40 okS40 := by
 intro n
 cases n with
 | zero => exact opensF_zero
 | succ n => exact opensF_struct (fun x : S40 => (x.f0, x.f1)) (fun p => ⟨p.1, p.2⟩) (fun _ => rfl) Tryz.underlying40 (by kernel_rfl) (opensL_cons rfl (by kernel_rfl) ((fun n => opensF_int (n := n) Tryz.underlying3) n) (opensL_last rfl (by kernel_rfl) ((fun n => opensF_int (n := n) Tryz.underlying3) n)))
def okS42 (x : S42) : Prop := (Lit.int .i64 x.f0).wf = true ∧ okS40 x.f1 ∧ okS40 x.f2
theorem opS42 : ∀ n, OpensF Tryz.prog n 42 k42 okS42 := by
 intro n
 cases n with
 | zero => exact opensF_zero
 | succ n => exact opensF_struct (fun x : S42 => (x.f0, x.f1, x.f2)) (fun p => ⟨p.1, p.2.1, p.2.2⟩) (fun _ => rfl) Tryz.underlying42 (by kernel_rfl) (opensL_cons rfl (by kernel_rfl) ((fun n => opensF_int (n := n) Tryz.underlying3) n) (opensL_cons rfl (by kernel_rfl) (opS40 n) (opensL_last rfl (by kernel_rfl) (opS40 n))))
def okL22 (xs : List S42) : Prop := xs.length * 40 ≤ 140737488351232 ∧ ∀ x ∈ xs, okS42 x
theorem opL22 : ∀ n, OpensF Tryz.prog n 22 (Kd.slice 42 k42) okL22 := by
 intro n
 cases n with
 | zero => exact opensF_zero
 | succ n => exact opensF_slice (b := 40) Tryz.underlying22 (by kernel_rfl) (by kernel_rfl) (opS42 n)
def okS24 (x : S24) : Prop := (Lit.int .i64 x.f0).wf = true ∧ (Lit.int .i64 x.f1).wf = true ∧ (Lit.int .i64 x.f2).wf = true
theorem opS24 : ∀ n, OpensF Tryz.prog n 24 k24 okS24 := by
 intro n
 cases n with
 | zero => exact opensF_zero
 | succ n => exact opensF_struct (fun x : S24 => (x.f0, x.f1, x.f2)) (fun p => ⟨p.1, p.2.1, p.2.2⟩) (fun _ => rfl) Tryz.underlying24 (by kernel_rfl) (opensL_cons rfl (by kernel_rfl) ((fun n => opensF_int (n := n) Tryz.underlying3) n) (opensL_cons rfl (by kernel_rfl) ((fun n => opensF_int (n := n) Tryz.underlying3) n) (opensL_last rfl (by kernel_rfl) ((fun n => opensF_int (n := n) Tryz.underlying3) n))))
/-- THE ONE PLAIN STATEMENT of forme/formelaw03.ZoneMatchesReference. -/
def Pure : Prop := ∀ (l0 : List S42) (l1 : List S42) (a2 : S24), okL22 l0 → okL22 l1 → okS24 a2 → formelaw03_ZoneMatchesReference.f l0 l1 a2.f0 a2.f1 a2.f2 = some true
end Go.Proofs.YtacohlafmbhcdaaGreat.ZoneMatchesReferenceStm
