/- Printed by a program of this session (wip/gprint.py) over the translation, cut to what is named (wip/dcut.py). Not trusted: Lean checks it. -/
import Derived.Test.YtdigjjncoeaiiaaPAlld0
import Derived.Test.YtdigjjncoeaiiaaPAllw11
namespace Go.Proofs.Ytdigjjncoeaiiaa.PAll
open Go.RowKit Go.Proofs.YtdigjjncoeaiiaaW.PrintWords Go.Proofs.YtdigjjncoeaiiaaW.PrintLast Go.Proofs.YtdigjjncoeaiiaaW.PrintMore
attribute [local go_sem] max2_int min2_int max_two min_two max_three min_three max_four min_four -- for this text's walks alone
set_option linter.unusedVariables false
set_option linter.unusedSimpArgs false
set_option maxHeartbeats 4000000 in
theorem containsI_calls (k : FuncId) (cap : Array Value) (hk : EntersK k) (p : Int → Bool) (Inv : World → Prop) (hInv : ∀ W W', Inv W → Below W.heap.size W W' → Inv W')
    (hp : ∀ (z : Int) (W : World), Inv W → Calls Try.prog k (#[.int .i64 z] ++ cap) W fun e w' => e = .returned (.bool (p z)) ∧ Below W.heap.size W w')
    (A : Option Addr) (c : Nat) (l : List Int) (w : World) (hr : Kd.C (Kd.int .i64) w A l.length l) (hc : l.length ≤ c) (hi : Inv w) :
    Calls Try.prog 45 #[.slice A l.length c, .func (.func k) #[] cap] w fun e w' => e = .returned (.bool (l.any p)) ∧ Below w.heap.size w w' := by
  have HX := Aside0.mk (fun W h hi => indexI_calls k cap hk p Inv hInv hp A c l W h hc hi)
  have HR := Aside0.mk hr
  have HI := Aside0.mk hi
  have e : decide (idxP p l 0 ≥ 0) = l.any p := by rw [Bool.eq_iff_iff, ← idxP_any p l 0, decide_eq_true_eq]
  generalize l.any p = b at *
  clear hr hi hInv hp
  go_enter Try.func45, Try.ntmps45
  go_wp2_with (go_at_call 76; refine (HX.out _ HR.out HI.out).mono ?_; rintro e w2 ⟨rfl, hb⟩)
  go_ret
  exact ⟨by first | rfl | (rw [e]; rfl), hb⟩
end Go.Proofs.Ytdigjjncoeaiiaa.PAll
