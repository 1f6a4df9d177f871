/- Printed by a program of this session (wip/gprint.py) over the translation. Not trusted: Lean checks it. -/
import Derived.Test.YtdigjjncoeaiiaaPAlld0
import Derived.Test.YtdigjjncoeaiiaaGopen
import Derived.OpenShut
namespace Go.Proofs.Ytdigjjncoeaiiaa.ValueOrderStm
open Go.RowKit Go.Proofs.Ytdigjjncoeaiiaa.PAll Go.Proofs.YtdigjjncoeaiiaaW.PrintWords Go.Proofs.YtdigjjncoeaiiaaW.PrintLast Go.Proofs.YtdigjjncoeaiiaaW.PrintMore Go.Proofs.YtdigjjncoeaiiaaGopen
set_option linter.unusedVariables false
set_option linter.constructorNameAsVariable false
inductive okS24 : S24 → Prop
  | mk (x : S24) (h0 : (Lit.int .i64 x.f0).wf = true) (h1 : (Lit.int .i64 x.f1).wf = true) (hl : x.f2.length * 40 ≤ 140737488351232) (hk : ∀ y ∈ x.f2, okS24 y) : okS24 x
theorem opS24 : ∀ n, OpensF Try.prog n 24 k24 okS24 := by
  intro n
  induction n using Nat.strongRecOn with
  | _ n ih =>
    cases n with
    | zero => exact opensF_zero
    | succ n =>
      have hs : OpensF Try.prog n 22 (Kd.slice 24 k24) (fun xs => xs.length * 40 ≤ 140737488351232 ∧ ∀ x ∈ xs, okS24 x) := by
        cases n with
        | zero => exact opensF_zero
        | succ n => exact opensF_slice (b := 40) Try.underlying22 (by kernel_rfl) (by kernel_rfl) (ih n (by omega))
      intro H enc w spare held cs y ps h hw
      obtain ⟨x, hK, hB⟩ := opensF_struct (fun x : S24 => (x.f0, x.f1, x.f2)) (fun p => (⟨p.1, p.2.1, p.2.2⟩ : S24)) (fun _ => rfl) Try.underlying24 (by kernel_rfl) (opensL_cons rfl (by kernel_rfl) ((fun n => opensF_int (n := n) Try.underlying3) n) (opensL_cons rfl (by kernel_rfl) ((fun n => opensF_int (n := n) Try.underlying3) n) (opensL_last rfl (by kernel_rfl) hs))) H enc w spare held cs y ps h hw
      refine ⟨x, ?_, okS24.mk x hB.1 hB.2.1 hB.2.2.1 hB.2.2.2⟩
      obtain ⟨_, _, rfl, rfl, ⟨_, _, rfl, rfl, ⟨AS, cS, rfl, lS, gS⟩⟩⟩ := hK
      exact k24_mk w x lS gS
def okS25 (x : S25) : Prop := (Lit.int .i64 x.f0).wf = true ∧ (Lit.int .i64 x.f1).wf = true ∧ (Lit.int .i64 x.f2).wf = true ∧ (Lit.int .i64 x.f3).wf = true ∧ (Lit.int .i64 x.f4).wf = true ∧ (Lit.int .i64 x.f5).wf = true ∧ (Lit.int .i64 x.f6).wf = true ∧ (Lit.int .i64 x.f7).wf = true
theorem opS25 : ∀ n, OpensF Try.prog n 25 k25 okS25 := by
  intro n H enc w spare held cs y ps h _
  obtain ⟨xs, m, _, _, hl, hlx, hf⟩ := DataW.trod_array Try.underlying25 h
  have g : ∀ i, i < 8 → ∃ x, cs[i]? = some (.int .i64 x) ∧ (Lit.int .i64 x).wf = true := by
    intro i hi
    have h1 := hf i hi
    rw [show Try.prog.cellsOf 3 = 1 by kernel_rfl, Nat.mul_one, List.getElem?_eq_getElem (by omega)] at h1
    obtain ⟨x, hx, _, hw⟩ := DataW.trod_int Try.underlying3 h1
    refine ⟨x, ?_, hw⟩
    have h2 := congrArg (fun l => l[0]?) hx
    simpa using h2
  obtain ⟨x0, e0, w0⟩ := g 0 (by decide)
  obtain ⟨x1, e1, w1⟩ := g 1 (by decide)
  obtain ⟨x2, e2, w2⟩ := g 2 (by decide)
  obtain ⟨x3, e3, w3⟩ := g 3 (by decide)
  obtain ⟨x4, e4, w4⟩ := g 4 (by decide)
  obtain ⟨x5, e5, w5⟩ := g 5 (by decide)
  obtain ⟨x6, e6, w6⟩ := g 6 (by decide)
  obtain ⟨x7, e7, w7⟩ := g 7 (by decide)
  refine ⟨⟨x0, x1, x2, x3, x4, x5, x6, x7⟩, ?_, ⟨w0, w1, w2, w3, w4, w5, w6, w7⟩⟩
  obtain rfl : cs = [.int .i64 x0, .int .i64 x1, .int .i64 x2, .int .i64 x3, .int .i64 x4, .int .i64 x5, .int .i64 x6, .int .i64 x7] := by
    have h8 : cs.length = 8 := hl.trans (by kernel_rfl)
    refine List.ext_getElem? fun i => ?_
    match i with
    | 0 => rw [e0]; rfl
    | 1 => rw [e1]; rfl
    | 2 => rw [e2]; rfl
    | 3 => rw [e3]; rfl
    | 4 => rw [e4]; rfl
    | 5 => rw [e5]; rfl
    | 6 => rw [e6]; rfl
    | 7 => rw [e7]; rfl
    | i + 8 => rw [List.getElem?_eq_none (by omega), List.getElem?_eq_none (by simp)]
  exact k25_mk w _
theorem okWide_arr25 {w : World} {r : Reach} {base : Nat} {v : Value} (h : Value.okWide Try.prog w r base 25 v) : ∃ cs, v = .agg cs ∧ cs.size = Try.prog.cellsOf 25 := by
  simp only [Value.okWide, Try.underlying25] at h
  obtain ⟨cs, h1, h2, _⟩ := h
  exact ⟨cs, h1, h2⟩
/-- THE ONE PLAIN STATEMENT of forme/formelaw14.ValueOrder. -/
def Pure : Prop := ∀ (a0 : S24) (a1 : S24) (a2 : Int) (a3 : Int) (a4 : S25), okS24 a0 → okS24 a1 → (Lit.int .i64 a2).wf = true → (Lit.int .i64 a3).wf = true → okS25 a4 → ∃ k, formelaw14_ValueOrder.f k a0.f0 a0.f1 a0.f2 a1.f0 a1.f1 a1.f2 a2 a3 a4.f0 a4.f1 a4.f2 a4.f3 a4.f4 a4.f5 a4.f6 a4.f7 = some true
end Go.Proofs.Ytdigjjncoeaiiaa.ValueOrderStm
