/- Printed by a program of this session (wip/gprint.py) over the translation. Not trusted: Lean checks it. -/
import Derived.Test.YtacohlafmbhcdaaPAlld1
import Derived.Test.YtacohlafmbhcdaaPAllw3
import Derived.Test.YtacohlafmbhcdaaPAllw16
namespace Go.Proofs.Ytacohlafmbhcdaa.PAll
open Go.RowKit Go.Proofs.YtacohlafmbhcdaaW.PrintWords Go.Proofs.YtacohlafmbhcdaaW.PrintLast Go.Proofs.YtacohlafmbhcdaaW.PrintMore
attribute [local go_sem] max2_int min2_int max_two min_two max_three min_three max_four min_four   -- for this text's walks alone
set_option linter.unusedVariables false
set_option linter.unusedSimpArgs false


set_option maxHeartbeats 1000000 in
theorem zone_Canon.calls (A0 : Option Addr) (c0 : Nat) (l0 : List (S35)) (r1 : List S35) (r2 : Int) (w : World) (hr0 : Kd.C k35 w A0 l0.length l0) (hc0 : l0.length ≤ c0) (h : zone_Canon.f l0 = some (r1, r2)) :
    Calls Try.prog 11 #[.slice A0 l0.length c0] w fun e w' => ∃ v0_ : Value, e = .returned (.tuple #[v0_, .int .i64 r2]) ∧ Kd.R k35 35 w' w.heap.size (fun _ => True) v0_ r1 ∧ Below w.heap.size w w' := by
  have HX := Aside0.mk (form_any (A1 := none) (c1 := 0) (l0 := l0) (l1 := []) (f := canW l0) w enters27 (fun a b r W h => zone_Canon_1.calls a b r W h) (fun h0 _ => ⟨fun lang s => sweep_first (valid_ok h0).1 (by have := (valid_ok h0).2; omega) lang s, canF_len h0⟩) hc0 (by simp) hr0 (Kd.C_nil k35 w))
  have e := Option.some.inj h
  rw [e] at HX
  clear h e hr0
  go_enter Try.func11, Try.ntmps11
  go_wp2_with (go_at_call 26; refine HX.out.mono ?_; rintro e w' ⟨v, rfl, ho, hb⟩)
  go_ret2
  exact ⟨_, rfl, ho, hb⟩

end Go.Proofs.Ytacohlafmbhcdaa.PAll
