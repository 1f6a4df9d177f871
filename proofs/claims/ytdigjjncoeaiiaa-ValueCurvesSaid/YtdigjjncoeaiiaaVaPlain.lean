/- Printed by a program of this session (wip/gprint.py) over the translation, cut to what is named (wip/dcut.py). Not trusted: Lean checks it. -/
import Derived.Test.YtdigjjncoeaiiaaGlib
import Derived.Test.YtdigjjncoeaiiaaPAlld0
namespace Go.Proofs.Ytdigjjncoeaiiaa.Plain
open Go.RowKit Go.Proofs.Ytdigjjncoeaiiaa.PAll Go.Proofs.YtdigjjncoeaiiaaW.PrintWords Go.Proofs.YtdigjjncoeaiiaaW.PrintLast Go.Proofs.YtdigjjncoeaiiaaW.PrintMore Go.Proofs.YtdigjjncoeaiiaaGlib
set_option linter.unusedSimpArgs false
def nodeR (e : S24) : Bool :=
  match shapeP e.f0 with
  | none => false
  | some (lo, hi, kids) => decide ((e.f2.length : Int) = kids) && decide (lo ≤ e.f1) && decide (e.f1 ≤ hi)
theorem in_of14 (a lo hi : Int) : formeref14_in.f a lo hi = some (decide (lo ≤ a) && decide (a ≤ hi)) := by
  unfold formeref14_in.f
  by_cases h : lo ≤ a
  · rw [if_pos h, decide_eq_true h, Bool.true_and]
  · rw [if_neg h, decide_eq_false h, Bool.false_and]
theorem zero_b (x : Int) : (x == 0) = (decide (0 ≤ x) && decide (x ≤ 0)) := by
  rw [Bool.eq_iff_iff]
  simp
  omega
theorem node_of (e : S24) : formeref14_node.f e.f0 e.f1 e.f2 = some (nodeR e) := by
  unfold formeref14_node.f nodeR shapeP
  simp only [in_of14, Option.bind_some]
  by_cases h1 : e.f0 = 1
  · simp [h1]; by_cases h : e.f2 = [] <;> simp [h]
  by_cases h2 : e.f0 = 2
  · simp [h2]; by_cases h : e.f2 = [] <;> simp [h]
  by_cases h3 : e.f0 = 3
  · simp [h3]; by_cases h : e.f2 = [] <;> simp [h]
  by_cases h4 : e.f0 = 4
  · simp [h4]; by_cases h : e.f2 = [] <;> simp [h]
  by_cases h7 : e.f0 = 7
  · simp [h7]; by_cases h : (e.f2.length : Int) = 1 <;> simp [h]
  by_cases h8 : e.f0 = 8
  · simp [h8]; by_cases h : (e.f2.length : Int) = 1 <;> simp [h]
  by_cases h5 : e.f0 = 5
  · rw [zero_b]; simp [h5]; by_cases h : (e.f2.length : Int) = 2 <;> simp [h]
  by_cases h6 : e.f0 = 6
  · rw [zero_b]; simp [h6]; by_cases h : (e.f2.length : Int) = 2 <;> simp [h]
  by_cases h9 : e.f0 = 9
  · rw [zero_b]; simp [h9]; by_cases h : (e.f2.length : Int) = 2 <;> simp [h]
  by_cases h10 : e.f0 = 10
  · rw [zero_b]; simp [h10]; by_cases h : (e.f2.length : Int) = 2 <;> simp [h]
  simp [h1, h2, h3, h4, h5, h6, h7, h8, h9, h10]
def cnt : Nat → S24 → Nat
  | 0, _ => 0
  | n + 1, e => 1 + (e.f2.map (cnt n)).sum
/-- What the circumstances must be. -/
def condB (w s : Int) (v : List Int) : Bool := (inI s 50 300 && v.all coordB) && inI w 0 1000000
theorem evalP_eq (e : S24) (w s : Int) (v : List Int) : evalP e w s v = if validE e = true ∧ condB w s v = true then pairE (evF w s v 30 e) else (0, 1) := by
  unfold evalP condB
  generalize (inI s 50 300 && v.all coordB) = c
  cases validE e <;> cases c <;> cases inI w 0 1000000 <;> simp
end Go.Proofs.Ytdigjjncoeaiiaa.Plain
