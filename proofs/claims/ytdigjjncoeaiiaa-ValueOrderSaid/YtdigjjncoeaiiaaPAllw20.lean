/- Printed by a program of this session (wip/gprint.py) over the translation, cut to what is named (wip/dcut.py). Not trusted: Lean checks it. -/
import Derived.Test.YtdigjjncoeaiiaaPAlld0
import Derived.Test.YtdigjjncoeaiiaaPAllw6
namespace Go.Proofs.Ytdigjjncoeaiiaa.PAll
open Go.RowKit Go.Proofs.YtdigjjncoeaiiaaW.PrintWords Go.Proofs.YtdigjjncoeaiiaaW.PrintLast Go.Proofs.YtdigjjncoeaiiaaW.PrintMore
attribute [local go_sem] max2_int min2_int max_two min_two max_three min_three max_four min_four -- for this text's walks alone
set_option linter.unusedVariables false
set_option linter.unusedSimpArgs false
set_option maxHeartbeats 4000000 in
set_option maxRecDepth 100000 in
theorem valid_calls (e : S24) (A : Option Addr) (c : Nat) (w : World) (hr : Kd.C k24 w A e.f2.length e.f2) (hc : e.f2.length ≤ c) :
    Calls Try.prog 13 #[.agg #[.int .i64 e.f0, .int .i64 e.f1, .slice A e.f2.length c]] w fun r w' => r = .returned (.bool (validE e)) ∧ Below w.heap.size w w' := by
  have FC := Aside0.mk (fun W hb hg => formed_calls w (w.heap.size + 1) (Nat.le_succ _) 30 (by omega) e A c 100 W hr hc (by omega) (by omega) hb hg)
  clear hr hc
  go_enter Try.func13, Try.ntmps13
  go_wp2_with (go_at_call 33; go_loud (refine (FC.out _ ?b1 ?b2).mono ?_; (case b1 => exact below_alloc (below_alloc (Below.refl _ _) _) _); (case b2 => unfold cellL; exact (by simpa using blk_new (w.alloc (.cells #[.int .i64 e.f0, .int .i64 e.f1, .slice A e.f2.length c] 24)) (.cells #[.int .i64 100] 3))); rintro r w1 ⟨rfl, hg, hl⟩))
  go_ret
  exact ⟨rfl, below_grown (below_alloc (below_alloc (Below.refl _ _) _) _) (Nat.le_succ _) hg⟩
end Go.Proofs.Ytdigjjncoeaiiaa.PAll
