/- Printed by a program of this session (wip/gprint.py) over the translation. Not trusted: Lean checks it. -/
import Derived.Test.YtacohlafmbhcdaaPAlld1
import Derived.Test.YtacohlafmbhcdaaPAllw16
namespace Go.Proofs.Ytacohlafmbhcdaa.PAll
open Go.RowKit Go.Proofs.YtacohlafmbhcdaaW.PrintWords Go.Proofs.YtacohlafmbhcdaaW.PrintLast Go.Proofs.YtacohlafmbhcdaaW.PrintMore
attribute [local go_sem] max2_int min2_int max_two min_two max_three min_three max_four min_four   -- for this text's walks alone
set_option linter.unusedVariables false
set_option linter.unusedSimpArgs false


theorem zone_Count.calls (A0 : Option Addr) (c0 : Nat) (l0 : List (S35)) (r1 r2 : Int) (w : World) (hr0 : Kd.C k35 w A0 l0.length l0) (hc0 : l0.length ≤ c0) (h : zone_Count.f l0 = some (r1, r2)) :
    Calls Try.prog 20 #[.slice A0 l0.length c0] w fun e w' => e = .returned (.tuple #[.int .i64 r1, .int .i64 r2]) ∧ Below w.heap.size w w' := by
  have e : countR l0 = (r1, r2) := Option.some.inj h
  cases hv : validP l0 with
  | true =>
    obtain ⟨a1, a2⟩ := valid_ok hv
    have h1 := count_calls hc0 (fun _ _ lang s => sweep_first a1 (by omega) lang s) hr0 (canF_len hv) hv a1 (by omega)
    unfold countR at e
    rw [if_pos hv] at e
    cases e
    exact h1
  | false =>
    have h1 := count_bad hc0 hr0 hv
    unfold countR at e
    rw [if_neg (by simp [hv])] at e
    cases e
    exact h1

end Go.Proofs.Ytacohlafmbhcdaa.PAll
