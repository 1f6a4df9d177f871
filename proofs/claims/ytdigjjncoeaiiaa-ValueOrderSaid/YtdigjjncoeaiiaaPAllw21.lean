/- Printed by a program of this session (wip/gprint.py) over the translation, cut to what is named (wip/dcut.py). Not trusted: Lean checks it. -/
import Derived.Test.YtdigjjncoeaiiaaPAlld0
import Derived.Test.YtdigjjncoeaiiaaPAllw3
import Derived.Test.YtdigjjncoeaiiaaPAllw15
namespace Go.Proofs.Ytdigjjncoeaiiaa.PAll
open Go.RowKit Go.Proofs.YtdigjjncoeaiiaaW.PrintWords Go.Proofs.YtdigjjncoeaiiaaW.PrintLast Go.Proofs.YtdigjjncoeaiiaaW.PrintMore
attribute [local go_sem] max2_int min2_int max_two min_two max_three min_three max_four min_four -- for this text's walks alone
set_option linter.unusedVariables false
set_option linter.unusedSimpArgs false
set_option maxHeartbeats 4000000 in
set_option maxRecDepth 100000 in
theorem right_calls (width scale x0 x1 x2 x3 x4 x5 x6 x7 : Int) (w : World) :
    Calls Try.prog 27 #[.agg #[.int .i64 width, .int .i64 scale, .int .i64 x0, .int .i64 x1, .int .i64 x2, .int .i64 x3, .int .i64 x4, .int .i64 x5, .int .i64 x6, .int .i64 x7]] w fun e w' => e = .returned (.bool (inI scale 50 300 && [x0, x1, x2, x3, x4, x5, x6, x7].all coordB)) ∧ Below w.heap.size w w' := by
  have CV := Aside0.mk (C_vars (blk_new w (.cells #[.int .i64 width, .int .i64 scale, .int .i64 x0, .int .i64 x1, .int .i64 x2, .int .i64 x3, .int .i64 x4, .int .i64 x5, .int .i64 x6, .int .i64 x7] 59)))
  have HB := Aside0.mk (below_alloc (Below.refl w.heap.size w) (.cells #[.int .i64 width, .int .i64 scale, .int .i64 x0, .int .i64 x1, .int .i64 x2, .int .i64 x3, .int .i64 x4, .int .i64 x5, .int .i64 x6, .int .i64 x7] 59))
  have WI := Aside0.mk (fun W => value_within.calls scale 50 300 _ W (within_of scale 50 300))
  have CF := Aside0.mk (fun A W h => containsI_calls 44 #[] enters44 (fun x => !coordB x) (fun _ => True) (fun _ _ _ _ => trivial) (fun x W _ => (value_about_right_1.calls x _ W (wrong_of x)).mono fun e w' h => ⟨h.1, Drawn0.below h.2⟩) A 8 [x0, x1, x2, x3, x4, x5, x6, x7] W h (Nat.le_refl _) trivial)
  rw [any_not] at CF
  generalize [x0, x1, x2, x3, x4, x5, x6, x7].all coordB = b at *
  generalize inI scale 50 300 = b2 at *
  cases b2 with
  | false =>
    go_enter Try.func27, Try.ntmps27
    go_wp2_with (go_at_call 28; with_reducible refine (WI.out _).mono ?_; rintro r2 w6 ⟨rfl, ⟨nd, rfl⟩⟩)
    go_ret
    exact ⟨rfl, pw_below_drewN HB.out _⟩
  | true =>
    go_enter Try.func27, Try.ntmps27
    go_wp2_with (first
      | (go_at_call 28; with_reducible refine (WI.out _).mono ?_; rintro r2 w6 ⟨rfl, hd⟩; have hb := Drawn0.below hd; clear hd; have HB6 := Aside0.mk (below_step HB.out hb); have CV6 := Aside0.mk (Kd.C_below CV.out hb); clear hb)
      | (go_at_call 45; refine (CF.out _ _ CV6.out).mono ?_; rintro r2 w7 ⟨rfl, hb⟩))
    go_ret
    exact ⟨rfl, below_step HB6.out hb⟩
end Go.Proofs.Ytdigjjncoeaiiaa.PAll
