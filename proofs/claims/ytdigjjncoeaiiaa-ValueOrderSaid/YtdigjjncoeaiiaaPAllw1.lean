/- Printed by a program of this session (wip/gprint.py) over the translation, cut to what is named (wip/dcut.py). Not trusted: Lean checks it. -/
import Derived.Test.YtdigjjncoeaiiaaPAlld0
namespace Go.Proofs.Ytdigjjncoeaiiaa.PAll
open Go.RowKit Go.Proofs.YtdigjjncoeaiiaaW.PrintWords Go.Proofs.YtdigjjncoeaiiaaW.PrintLast Go.Proofs.YtdigjjncoeaiiaaW.PrintMore
attribute [local go_sem] max2_int min2_int max_two min_two max_three min_three max_four min_four -- for this text's walks alone
set_option linter.unusedVariables false
set_option linter.unusedSimpArgs false
set_option maxHeartbeats 4000000 in
set_option maxRecDepth 100000 in
theorem variable_calls (a0 a1 x0 x1 x2 x3 x4 x5 x6 x7 n : Int) (m : Nat) (A : Option Addr) (l c : Nat) (w : World) (hm : m < 8) (hn : wrap64 (n - 1) = (m : Int)) :
    Calls Try.prog 51 #[.agg #[.int .i64 a0, .int .i64 a1, .int .i64 x0, .int .i64 x1, .int .i64 x2, .int .i64 x3, .int .i64 x4, .int .i64 x5, .int .i64 x6, .int .i64 x7], .int .i64 n, .slice A l c] w fun e w' => e = .returned (.int .i64 ([x0, x1, x2, x3, x4, x5, x6, x7].getD m 0)) ∧ Below w.heap.size w w' := by
  have HC := Aside0.mk (cells10 (n := m) (blk_new w (.cells #[.int .i64 a0, .int .i64 a1, .int .i64 x0, .int .i64 x1, .int .i64 x2, .int .i64 x3, .int .i64 x4, .int .i64 x5, .int .i64 x6, .int .i64 x7] 59)) hm rfl)
  generalize [x0, x1, x2, x3, x4, x5, x6, x7].getD m 0 = r at *
  have hc := HC.out
  have q0 : (0 : Int) ≤ (m : Int) := by omega
  have q1 : (m : Int) < 8 := by omega
  go_enter Try.func51, Try.ntmps51
  go_wp2
  go_ret
  exact ⟨rfl, below_alloc (Below.refl _ _) _⟩
end Go.Proofs.Ytdigjjncoeaiiaa.PAll
