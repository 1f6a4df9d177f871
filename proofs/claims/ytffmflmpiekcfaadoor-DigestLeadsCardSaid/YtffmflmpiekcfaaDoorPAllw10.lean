/- Printed by a program of this session (wip/gprint.py) over the translation. Not trusted: Lean checks it. -/
import Derived.Test.YtffmflmpiekcfaaDoorPAlld0
import Derived.Test.YtffmflmpiekcfaaDoorPAllw9
namespace Go.Proofs.YtffmflmpiekcfaaDoor.PAll
open Go.RowKit Go.Proofs.YtffmflmpiekcfaaDoorW.PrintWords Go.Proofs.YtffmflmpiekcfaaDoorW.PrintLast Go.Proofs.YtffmflmpiekcfaaDoorW.PrintMore
attribute [local go_sem] max2_int min2_int max_two min_two max_three min_three max_four min_four   -- for this text's walks alone
set_option linter.unusedVariables false
set_option linter.unusedSimpArgs false

open Go.Shelf
set_option maxHeartbeats 4000000 in
set_option maxRecDepth 100000 in
theorem digest_Leads.calls (a0 a1 a2 a3 : Int) (A4 : Option Addr) (c4 : Nat) (l4 : List Int) (r : Bool) (w : World) (hr4 : Kd.C (Kd.int .u64) w A4 l4.length l4) (hc4 : l4.length ≤ c4) (h : digest_Leads.f a0 a1 a2 a3 l4 = some r) (hT : Tab w) :
    Calls Tryd.prog 21 #[.int .u64 a0, .int .u64 a1, .int .i64 a2, .int .i64 a3, .slice A4 l4.length c4] w fun e w' => e = .returned (.bool r) ∧ Below w.heap.size w w' := by
  unfold digest_Leads.f at h
  by_cases hl : l4.length ≤ 1000000000
  case neg => rw [if_neg hl] at h; cases h
  rw [if_pos hl] at h
  have HT := Aside0.mk hT
  have HR := Aside0.mk hr4
  by_cases hin : 1 ≤ a3 ∧ a3 ≤ 10000 ∧ 0 ≤ a2 ∧ a2 < a3
  · rw [if_pos hin] at h
    obtain rfl := Option.some.inj h
    obtain ⟨n, rfl⟩ : ∃ n : Nat, a3 = (n : Int) := ⟨a3.toNat, by omega⟩
    rw [Int.toNat_natCast]
    have FC := Aside0.mk (fun W gd gf hr hT hd hf => follow_calls n a1 A4 c4 l4 a2 n W gd gf (Nat.le_refl _) (by omega) (by omega) hin.2.2.1 hin.2.2.2 hl hr hc4 hT hd hf)
    have b1 : decide ((n : Int) < 1) = false := by simp; omega
    have b2 : decide ((n : Int) > 10000) = false := by simp; omega
    have b2' : decide (10000 < (n : Int)) = false := by simp; omega
    have b3 : decide (a2 < 0) = false := by simp; omega
    have b4 : decide (a2 ≥ (n : Int)) = false := by simp; omega
    have b4' : decide ((n : Int) ≤ a2) = false := by simp; omega
    generalize followF n a1 a2 n l4 = r at FC ⊢
    obtain ⟨x, ok⟩ := r
    clear hr4 hT h hin hl
    cases ok
    all_goals
      go_enter Tryd.func21, Tryd.ntmps21
      go_wp2_with ((refine (FC.out _ w.heap.size (w.heap.size + 1) (Kd.C_below HR.out (below_alloc (below_alloc (Below.refl _ _) _) _)) (HT.out.below (below_alloc (below_alloc (Below.refl _ _) _) _)) (blk_alloc (blk_new _ _) _) (by have := blk_new (w.alloc (.cells #[.int .u64 a1] 23)) (.cells #[.func (Fn.func 38) #[] #[.pointer (some ⟨w.heap.size, 0, none⟩), .pointer (some ⟨w.heap.size + 1, 0, none⟩)]] 57); simpa [followFn] using this)).mono ?_); rintro e w2 ⟨rfl, hb⟩)
      go_ret
      exact ⟨by first | rfl | simp, below_then (below_alloc (below_alloc (Below.refl _ _) _) _) (by simp; omega) hb⟩
  · rw [if_neg hin] at h
    obtain rfl := Option.some.inj h
    clear hr4 hT h
    by_cases q1 : a3 < 1
    · have b1 : decide (a3 < 1) = true := decide_eq_true q1
      go_enter Tryd.func21, Tryd.ntmps21
      go_wp2_with fail
      go_ret
      exact ⟨rfl, below_alloc (Below.refl _ _) _⟩
    have b1 : decide (a3 < 1) = false := decide_eq_false q1
    by_cases q2 : 10000 < a3
    · have b2 : decide (10000 < a3) = true := decide_eq_true q2
      go_enter Tryd.func21, Tryd.ntmps21
      go_wp2_with fail
      go_ret
      exact ⟨rfl, below_alloc (Below.refl _ _) _⟩
    have b2 : decide (10000 < a3) = false := decide_eq_false q2
    by_cases q3 : a2 < 0
    · have b3 : decide (a2 < 0) = true := decide_eq_true q3
      go_enter Tryd.func21, Tryd.ntmps21
      go_wp2_with fail
      go_ret
      exact ⟨rfl, below_alloc (Below.refl _ _) _⟩
    have b3 : decide (a2 < 0) = false := decide_eq_false q3
    have b4 : decide (a3 ≤ a2) = true := by simp; omega
    go_enter Tryd.func21, Tryd.ntmps21
    go_wp2_with fail
    go_ret
    exact ⟨rfl, below_alloc (Below.refl _ _) _⟩

end Go.Proofs.YtffmflmpiekcfaaDoor.PAll
