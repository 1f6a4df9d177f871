/- Printed by a program of this session (wip/gprint.py) over the translation. Not trusted: Lean checks it. -/
import Derived.Test.YtffmflmpiekcfabPAllx0
import Derived.Test.YtffmflmpiekcfabPAllx1
import Derived.Test.YtffmflmpiekcfabPAllx2
import Derived.Test.YtffmflmpiekcfabPAllx4
import Derived.Test.YtffmflmpiekcfabPAllx5
import Derived.Test.YtffmflmpiekcfabPAllx12
import Derived.Test.YtffmflmpiekcfabPAllx13
import Derived.Test.YtffmflmpiekcfabPAllx14
import Derived.Test.YtffmflmpiekcfabPAllx15
import Derived.Test.YtffmflmpiekcfabPAllx16
namespace Go.Proofs.Ytffmflmpiekcfab.PAll
open Go.RowKit Go.Proofs.YtffmflmpiekcfabW.PrintWords Go.Proofs.YtffmflmpiekcfabW.PrintLast Go.Proofs.YtffmflmpiekcfabW.PrintMore
attribute [local go_sem] max2_int min2_int max_two min_two max_three min_three max_four min_four   -- for this text's walks alone
set_option linter.unusedVariables false
set_option linter.unusedSimpArgs false

attribute [local go_sem high] eqA25 eqA41
/-! ### formeref20_Same: function 18 -/
def formeref20_Same.l0 : Nat → List (S41) → List (S41) → Int → Option (Bool)
  | 0, _, _, _ => none
  | k + 1, x0, x1, x5 => if x5 < (x0.length : Int) then (if 0 ≤ x5 then (if x5 < (x1.length : Int) then (if (!(((rd_T41 x0 x5).f0) == ((rd_T41 x1 x5).f0)) || (!(((rd_T41 x0 x5).f1) == ((rd_T41 x1 x5).f1)) || (!(((rd_T41 x0 x5).f2) == ((rd_T41 x1 x5).f2)) || (!(((rd_T41 x0 x5).f3) == ((rd_T41 x1 x5).f3)) || (!(((rd_T41 x0 x5).f4) == ((rd_T41 x1 x5).f4))))))) = true then (some false) else (formeref20_Same.l0 k x0 x1 (wrap64 (x5 + 1)))) else (none)) else (none)) else (some true)
def formeref20_Same.f (k : Nat) (l0 : List (S41)) (l1 : List (S41)) : Option (Bool) := if (l0.length : Int) = (l1.length : Int) then (formeref20_Same.l0 k l0 l1 0) else (some false)
theorem formeref20_Same.mono_l : ∀ k, (∀ y0 y1 y2, LeO (formeref20_Same.l0 k y0 y1 y2) (formeref20_Same.l0 (k + 1) y0 y1 y2))
  | 0 => fun _ _ _ r h => by simp [formeref20_Same.l0] at h
  | k + 1 => by
    have ih0 := formeref20_Same.mono_l k
    · intro y0 y1 y2
      unfold formeref20_Same.l0
      repeat' first
      | (with_reducible exact ih0 _ _ _)
      | (with_reducible exact LeO.refl _)
      | (with_reducible exact LeO.none _)
      | (with_reducible refine LeO.ite ?_ ?_)
      | (with_reducible refine LeO.bind ?_ (fun _ => ?_))
      | exact ih0 _ _ _
      | exact LeO.none _
      | refine LeO.ite ?_ ?_
      | refine LeO.bind ?_ (fun _ => ?_)
theorem formeref20_Same.mono : ∀ a0 a1 k, LeO (formeref20_Same.f k a0 a1) (formeref20_Same.f (k + 1) a0 a1) := by
  intro a0 a1 k
  have ih0 := formeref20_Same.mono_l k
  unfold formeref20_Same.f
  repeat' first
      | (with_reducible exact ih0 _ _ _)
      | (with_reducible exact LeO.refl _)
      | (with_reducible exact LeO.none _)
      | (with_reducible refine LeO.ite ?_ ?_)
      | (with_reducible refine LeO.bind ?_ (fun _ => ?_))
      | exact ih0 _ _ _
      | exact LeO.none _
      | refine LeO.ite ?_ ?_
      | refine LeO.bind ?_ (fun _ => ?_)
set_option maxHeartbeats 8000000 in
set_option maxRecDepth 100000 in
theorem formeref20_Same.calls (k : Nat) (A0 : Option Addr) (c0 : Nat) (l0 : List (S41)) (A1 : Option Addr) (c1 : Nat) (l1 : List (S41)) (r : Bool) (w : World) (hr0 : Kd.C k41 w A0 l0.length l0) (hc0 : l0.length ≤ c0) (hr1 : Kd.C k41 w A1 l1.length l1) (hc1 : l1.length ≤ c1) (h : formeref20_Same.f k l0 l1 = some r) :
    Calls Try.prog 18 #[.slice A0 l0.length c0, .slice A1 l1.length c1] w fun e w' => e = .returned (.bool r) ∧ Drawn0 w w' := by
  have hu41 := Try.underlying41
  have HR0 := Aside0.mk hr0
  have HC0 := Aside0.mk hc0
  clear hr0 hc0
  have HR1 := Aside0.mk hr1
  have HC1 := Aside0.mk hc1
  clear hr1 hc1
  have H : (if (l0.length : Int) = (l1.length : Int) then (formeref20_Same.l0 k l0 l1 0) else (some false)) = some r := h
  clear h
  by_cases c3 : (l0.length : Int) = (l1.length : Int)
  · rw [if_pos c3] at H
    have c3b0 : ((l0.length : Int) == (l1.length : Int)) = true := beq_iff_eq.mpr c3
    have c3b1 : ((l0.length : Int) != (l1.length : Int)) = false := bne_eq_false_iff_eq.mpr c3
    have c3b2 : (l0.length == l1.length) = true := by (simp at c3 ⊢; omega)
    clear c3
    have H' := Aside0.mk H
    clear H
    go_enter Try.func18, Try.ntmps18
    go_wp2
    repeat (go_quiet (fail); try go_wp2)
    go_loopg [5] k (fun kq v5 w' => ∃ (x5_1 : Int), v5 = .int .i64 x5_1 ∧ Aside0 (formeref20_Same.l0 kq l0 l1 x5_1 = some r) ∧ Aside0 (kq ≤ k) ∧ Drawn0 w w')
    case atStart => exact ⟨(0), (by rfl), H', ⟨Nat.le_refl _⟩, by repeat (exact Drawn0.refl _)⟩
    case round =>
      clear H'
      try clear c3b0
      try clear c3b1
      try clear c3b2
      obtain ⟨x5_1, rfl, HA, HK1, ⟨m1, rfl⟩⟩ := hrel
      cases gk with
      | zero => exact absurd HA.out (by simp [formeref20_Same.l0])
      | succ k1 =>
        have H := HA.out
        clear HA
        simp only [formeref20_Same.l0] at H
        by_cases c4 : x5_1 < (l0.length : Int)
        · rw [if_pos c4] at H
          have c4b0 : decide (x5_1 < (l0.length : Int)) = true := decide_eq_true c4
          clear c4
          by_cases c5 : 0 ≤ x5_1
          · rw [if_pos c5] at H
            have c5b0 : decide (0 ≤ x5_1) = true := decide_eq_true c5
            clear c5
            by_cases c6 : x5_1 < (l1.length : Int)
            · rw [if_pos c6] at H
              have c6b0 : decide (x5_1 < (l1.length : Int)) = true := decide_eq_true c6
              clear c6
              by_cases c7 : (!(((rd_T41 l0 x5_1).f0) == ((rd_T41 l1 x5_1).f0)) || (!(((rd_T41 l0 x5_1).f1) == ((rd_T41 l1 x5_1).f1)) || (!(((rd_T41 l0 x5_1).f2) == ((rd_T41 l1 x5_1).f2)) || (!(((rd_T41 l0 x5_1).f3) == ((rd_T41 l1 x5_1).f3)) || (!(((rd_T41 l0 x5_1).f4) == ((rd_T41 l1 x5_1).f4))))))) = true
              · rw [if_pos c7] at H
                have c7b0 : (!(((rd_T41 l0 x5_1).f0) == ((rd_T41 l1 x5_1).f0)) || (!(((rd_T41 l0 x5_1).f1) == ((rd_T41 l1 x5_1).f1)) || (!(((rd_T41 l0 x5_1).f2) == ((rd_T41 l1 x5_1).f2)) || (!(((rd_T41 l0 x5_1).f3) == ((rd_T41 l1 x5_1).f3)) || (!(((rd_T41 l0 x5_1).f4) == ((rd_T41 l1 x5_1).f4))))))) = true := c7
                clear c7
                obtain rfl := Option.some.inj H
                have p217 : 0 ≤ (x5_1 : Int) := of_decide_eq_true (by (with_reducible assumption))
                have q217 : x5_1 < (l0.length : Int) := of_decide_eq_true (by (with_reducible assumption))
                obtain ⟨ad217, e217, hx217_0, hx217_1, hx217_2, hx217_3, hx217_4⟩ := at_T41 HR0.out x5_1 p217 q217
                cases e217
                replace p217 := eq_true p217
                replace q217 := eq_true q217
                have p218 : 0 ≤ (x5_1 : Int) := of_decide_eq_true (by (with_reducible assumption))
                have q218 : x5_1 < (l1.length : Int) := of_decide_eq_true (by (with_reducible assumption))
                obtain ⟨ad218, e218, hx218_0, hx218_1, hx218_2, hx218_3, hx218_4⟩ := at_T41 HR1.out x5_1 p218 q218
                cases e218
                replace p218 := eq_true p218
                replace q218 := eq_true q218
                go_wp2
                repeat (go_quiet (fail); try go_wp2)
                go_ret
                exact ⟨by rfl, by repeat (first | exact Drawn0.refl _ | apply Drawn0.step)⟩
              · rw [if_neg c7] at H
                have c7b0 : (!(((rd_T41 l0 x5_1).f0) == ((rd_T41 l1 x5_1).f0)) || (!(((rd_T41 l0 x5_1).f1) == ((rd_T41 l1 x5_1).f1)) || (!(((rd_T41 l0 x5_1).f2) == ((rd_T41 l1 x5_1).f2)) || (!(((rd_T41 l0 x5_1).f3) == ((rd_T41 l1 x5_1).f3)) || (!(((rd_T41 l0 x5_1).f4) == ((rd_T41 l1 x5_1).f4))))))) = false := by simpa using c7
                clear c7
                have H' := Aside0.mk H
                clear H
                have p217 : 0 ≤ (x5_1 : Int) := of_decide_eq_true (by (with_reducible assumption))
                have q217 : x5_1 < (l0.length : Int) := of_decide_eq_true (by (with_reducible assumption))
                obtain ⟨ad217, e217, hx217_0, hx217_1, hx217_2, hx217_3, hx217_4⟩ := at_T41 HR0.out x5_1 p217 q217
                cases e217
                replace p217 := eq_true p217
                replace q217 := eq_true q217
                have p218 : 0 ≤ (x5_1 : Int) := of_decide_eq_true (by (with_reducible assumption))
                have q218 : x5_1 < (l1.length : Int) := of_decide_eq_true (by (with_reducible assumption))
                obtain ⟨ad218, e218, hx218_0, hx218_1, hx218_2, hx218_3, hx218_4⟩ := at_T41 HR1.out x5_1 p218 q218
                cases e218
                replace p218 := eq_true p218
                replace q218 := eq_true q218
                go_wp2
                repeat (go_quiet (fail); try go_wp2)
                go_roundg k1
                case measure => have := HK1.out; omega
                case rel => exact ⟨(wrap64 (x5_1 + 1)), (by rfl), H', ⟨by have := HK1.out; omega⟩, by repeat (first | exact Drawn0.refl _ | apply Drawn0.step)⟩
            · rw [if_neg c6] at H
              exact absurd H (by simp)
          · rw [if_neg c5] at H
            exact absurd H (by simp)
        · rw [if_neg c4] at H
          have c4b0 : decide (x5_1 < (l0.length : Int)) = false := decide_eq_false c4
          clear c4
          obtain rfl := Option.some.inj H
          go_wp2
          repeat (go_quiet (fail); try go_wp2)
          go_ret
          exact ⟨by rfl, by repeat (first | exact Drawn0.refl _ | apply Drawn0.step)⟩
  · rw [if_neg c3] at H
    have c3b0 : ((l0.length : Int) == (l1.length : Int)) = false := beq_eq_false_iff_ne.mpr c3
    have c3b1 : ((l0.length : Int) != (l1.length : Int)) = true := bne_iff_ne.mpr c3
    have c3b2 : (l0.length == l1.length) = false := by (simp at c3 ⊢; omega)
    obtain rfl := Option.some.inj H
    go_enter Try.func18, Try.ntmps18
    go_wp2
    repeat (go_quiet (fail); try go_wp2)
    go_ret
    exact ⟨by rfl, by repeat (exact Drawn0.refl _)⟩

/-! ### formelaw20_FloatsMatchesReference: function 3 -/
mutual
def formelaw20_FloatsMatchesReference.j0 : Nat → List (S41) → Int → Int → Int → Int → Int → Bool → Bool → Option (Bool)
  | 0, _, _, _, _, _, _, _, _ => none
  | k + 1, x0, x1, x2, x3, x4, x5, x13, x30 => if x30 = true then (some x13) else ((floats_Room.f k x0 x1 x3 x5).bind fun bt220 => ((formeref20_Room.f k x0 x1 x3 x5).bind fun bt224 => (if x13 = true then ((floats_Valid.f x0 x1).bind fun t228 => ((formeref20_Valid.f k x0 x1).bind fun t229 => (if (t228 == t229) = true then (if (bt220.1 == bt224.1 && (bt220.2.1 == bt224.2.1)) = true then (formelaw20_FloatsMatchesReference.j1 k x0 x1 x2 x3 x4 x5 (bt220.2.2 == bt224.2.2)) else (formelaw20_FloatsMatchesReference.j1 k x0 x1 x2 x3 x4 x5 false)) else (formelaw20_FloatsMatchesReference.j1 k x0 x1 x2 x3 x4 x5 false)))) else (formelaw20_FloatsMatchesReference.j1 k x0 x1 x2 x3 x4 x5 false))))
def formelaw20_FloatsMatchesReference.j1 : Nat → List (S41) → Int → Int → Int → Int → Int → Bool → Option (Bool)
  | 0, _, _, _, _, _, _, _ => none
  | k + 1, x0, x1, x2, x3, x4, x5, x13 => (floats_Below.f k x0 x1 x2).bind fun bt230 => ((formeref20_Below.f k x0 x1 x2).bind fun bt232 => (if x13 = true then (if bt230.1 = bt232.1 then ((floats_Place.f x0 x1 x2 x3 x4 x5).bind fun bt234 => ((formeref20_Place.f k x0 x1 x2 x3 x4 x5).bind fun bt238 => (if bt230.2 = bt232.2 then ((formeref20_Same.f k bt234.1 bt238.1).bind fun t242 => (if t242 = true then (some (bt234.2 == bt238.2)) else (some false))) else (some false)))) else ((floats_Place.f x0 x1 x2 x3 x4 x5).bind fun bt243 => ((formeref20_Place.f k x0 x1 x2 x3 x4 x5).bind fun bt247 => (some false)))) else ((floats_Place.f x0 x1 x2 x3 x4 x5).bind fun bt251 => ((formeref20_Place.f k x0 x1 x2 x3 x4 x5).bind fun bt255 => (some false)))))
end
def formelaw20_FloatsMatchesReference.f (k : Nat) (l0 : List (S41)) (a1 : Int) (a2 : Int) (a3 : Int) (a4 : Int) (a5 : Int) : Option (Bool) := (formelaw20_head.f k).bind fun t219 => (if (l0.length : Int) > 30 then (formelaw20_FloatsMatchesReference.j0 k l0 a1 a2 a3 a4 a5 t219 (decide ((l0.length : Int) < 200))) else (formelaw20_FloatsMatchesReference.j0 k l0 a1 a2 a3 a4 a5 t219 false))
theorem formelaw20_FloatsMatchesReference.mono_l : ∀ k, (∀ y0 y1 y2 y3 y4 y5 y6 y7, LeO (formelaw20_FloatsMatchesReference.j0 k y0 y1 y2 y3 y4 y5 y6 y7) (formelaw20_FloatsMatchesReference.j0 (k + 1) y0 y1 y2 y3 y4 y5 y6 y7)) ∧ (∀ y0 y1 y2 y3 y4 y5 y6, LeO (formelaw20_FloatsMatchesReference.j1 k y0 y1 y2 y3 y4 y5 y6) (formelaw20_FloatsMatchesReference.j1 (k + 1) y0 y1 y2 y3 y4 y5 y6))
  | 0 => ⟨fun _ _ _ _ _ _ _ _ r h => by simp [formelaw20_FloatsMatchesReference.j0] at h, fun _ _ _ _ _ _ _ r h => by simp [formelaw20_FloatsMatchesReference.j1] at h⟩
  | k + 1 => by
    obtain ⟨ih0, ih1⟩ := formelaw20_FloatsMatchesReference.mono_l k
    refine ⟨?_, ?_⟩
    · intro y0 y1 y2 y3 y4 y5 y6 y7
      unfold formelaw20_FloatsMatchesReference.j0
      repeat' first
      | (with_reducible exact ih0 _ _ _ _ _ _ _ _)
      | (with_reducible exact ih1 _ _ _ _ _ _ _)
      | (with_reducible exact floats_Below.mono _ _ _ _)
      | (with_reducible exact floats_Room.mono _ _ _ _ _)
      | (with_reducible exact formelaw20_head.mono _)
      | (with_reducible exact formeref20_Below.mono _ _ _ _)
      | (with_reducible exact formeref20_Place.mono _ _ _ _ _ _ _)
      | (with_reducible exact formeref20_Room.mono _ _ _ _ _)
      | (with_reducible exact formeref20_Same.mono _ _ _)
      | (with_reducible exact formeref20_Valid.mono _ _ _)
      | (with_reducible exact LeO.refl _)
      | (with_reducible exact LeO.none _)
      | (with_reducible refine LeO.ite ?_ ?_)
      | (with_reducible refine LeO.bind ?_ (fun _ => ?_))
      | exact ih0 _ _ _ _ _ _ _ _
      | exact ih1 _ _ _ _ _ _ _
      | exact floats_Below.mono _ _ _ _
      | exact floats_Room.mono _ _ _ _ _
      | exact formelaw20_head.mono _
      | exact formeref20_Below.mono _ _ _ _
      | exact formeref20_Place.mono _ _ _ _ _ _ _
      | exact formeref20_Room.mono _ _ _ _ _
      | exact formeref20_Same.mono _ _ _
      | exact formeref20_Valid.mono _ _ _
      | exact LeO.none _
      | refine LeO.ite ?_ ?_
      | refine LeO.bind ?_ (fun _ => ?_)
    · intro y0 y1 y2 y3 y4 y5 y6
      unfold formelaw20_FloatsMatchesReference.j1
      repeat' first
      | (with_reducible exact ih0 _ _ _ _ _ _ _ _)
      | (with_reducible exact ih1 _ _ _ _ _ _ _)
      | (with_reducible exact floats_Below.mono _ _ _ _)
      | (with_reducible exact floats_Room.mono _ _ _ _ _)
      | (with_reducible exact formelaw20_head.mono _)
      | (with_reducible exact formeref20_Below.mono _ _ _ _)
      | (with_reducible exact formeref20_Place.mono _ _ _ _ _ _ _)
      | (with_reducible exact formeref20_Room.mono _ _ _ _ _)
      | (with_reducible exact formeref20_Same.mono _ _ _)
      | (with_reducible exact formeref20_Valid.mono _ _ _)
      | (with_reducible exact LeO.refl _)
      | (with_reducible exact LeO.none _)
      | (with_reducible refine LeO.ite ?_ ?_)
      | (with_reducible refine LeO.bind ?_ (fun _ => ?_))
      | exact ih0 _ _ _ _ _ _ _ _
      | exact ih1 _ _ _ _ _ _ _
      | exact floats_Below.mono _ _ _ _
      | exact floats_Room.mono _ _ _ _ _
      | exact formelaw20_head.mono _
      | exact formeref20_Below.mono _ _ _ _
      | exact formeref20_Place.mono _ _ _ _ _ _ _
      | exact formeref20_Room.mono _ _ _ _ _
      | exact formeref20_Same.mono _ _ _
      | exact formeref20_Valid.mono _ _ _
      | exact LeO.none _
      | refine LeO.ite ?_ ?_
      | refine LeO.bind ?_ (fun _ => ?_)
theorem formelaw20_FloatsMatchesReference.mono : ∀ a0 a1 a2 a3 a4 a5 k, LeO (formelaw20_FloatsMatchesReference.f k a0 a1 a2 a3 a4 a5) (formelaw20_FloatsMatchesReference.f (k + 1) a0 a1 a2 a3 a4 a5) := by
  intro a0 a1 a2 a3 a4 a5 k
  obtain ⟨ih0, ih1⟩ := formelaw20_FloatsMatchesReference.mono_l k
  unfold formelaw20_FloatsMatchesReference.f
  repeat' first
      | (with_reducible exact ih0 _ _ _ _ _ _ _ _)
      | (with_reducible exact ih1 _ _ _ _ _ _ _)
      | (with_reducible exact floats_Below.mono _ _ _ _)
      | (with_reducible exact floats_Room.mono _ _ _ _ _)
      | (with_reducible exact formelaw20_head.mono _)
      | (with_reducible exact formeref20_Below.mono _ _ _ _)
      | (with_reducible exact formeref20_Place.mono _ _ _ _ _ _ _)
      | (with_reducible exact formeref20_Room.mono _ _ _ _ _)
      | (with_reducible exact formeref20_Same.mono _ _ _)
      | (with_reducible exact formeref20_Valid.mono _ _ _)
      | (with_reducible exact LeO.refl _)
      | (with_reducible exact LeO.none _)
      | (with_reducible refine LeO.ite ?_ ?_)
      | (with_reducible refine LeO.bind ?_ (fun _ => ?_))
      | exact ih0 _ _ _ _ _ _ _ _
      | exact ih1 _ _ _ _ _ _ _
      | exact floats_Below.mono _ _ _ _
      | exact floats_Room.mono _ _ _ _ _
      | exact formelaw20_head.mono _
      | exact formeref20_Below.mono _ _ _ _
      | exact formeref20_Place.mono _ _ _ _ _ _ _
      | exact formeref20_Room.mono _ _ _ _ _
      | exact formeref20_Same.mono _ _ _
      | exact formeref20_Valid.mono _ _ _
      | exact LeO.none _
      | refine LeO.ite ?_ ?_
      | refine LeO.bind ?_ (fun _ => ?_)
set_option maxHeartbeats 8000000 in
set_option maxRecDepth 100000 in
theorem formelaw20_FloatsMatchesReference.calls (k : Nat) (A0 : Option Addr) (c0 : Nat) (l0 : List (S41)) (a1 : Int) (a2 : Int) (a3 : Int) (a4 : Int) (a5 : Int) (r : Bool) (w : World) (hr0 : Kd.C k41 w A0 l0.length l0) (hc0 : l0.length ≤ c0) (h : formelaw20_FloatsMatchesReference.f k l0 a1 a2 a3 a4 a5 = some r) :
    Calls Try.prog 3 #[.slice A0 l0.length c0, .int .i64 a1, .int .i64 a2, .int .i64 a3, .int .i64 a4, .int .i64 a5] w fun e w' => e = .returned (.bool r) ∧ Below w.heap.size w w' := by
  have hu25 := Try.underlying25
  have HR0 := Aside0.mk hr0
  have HC0 := Aside0.mk hc0
  clear hr0 hc0
  have HB := Aside0.mk (Below.refl w.heap.size w)
  have H : ((formelaw20_head.f k).bind fun t219 => (if (l0.length : Int) > 30 then (formelaw20_FloatsMatchesReference.j0 k l0 a1 a2 a3 a4 a5 t219 (decide ((l0.length : Int) < 200))) else (formelaw20_FloatsMatchesReference.j0 k l0 a1 a2 a3 a4 a5 t219 false))) = some r := h
  clear h
  replace H := Option.bind_eq_some_iff.mp H
  obtain ⟨t219, A70, H⟩ := H
  replace H : (if (l0.length : Int) > 30 then (formelaw20_FloatsMatchesReference.j0 k l0 a1 a2 a3 a4 a5 t219 (decide ((l0.length : Int) < 200))) else (formelaw20_FloatsMatchesReference.j0 k l0 a1 a2 a3 a4 a5 t219 false)) = some r := H
  have A7 := Aside0.mk A70
  clear A70
  have HC8 := Aside0.mk H
  clear H
  go_enter Try.func3, Try.ntmps3
  go_upto_region 2 with (((with_reducible refine gate_callee (f := 9) rfl ?_); refine goesL_ (some 22) rfl rfl Try.func9 (by kernel_rfl) rfl #[] rfl (by (try simp only [List.map_toArray, List.map_cons, List.map_nil]); done) ?_; (with_reducible refine (formelaw20_head.calls k  t219 _ A7.out).mono ?_); rintro e w9 ⟨rfl, hb⟩; refine ⟨_, rfl, ?_⟩; have n0_ := Aside0.mk (below_step (by repeat ((with_reducible exact HB.out))) hb); clear HB; have HB := n0_; clear n0_; (try clear hb)))
  (try simp only [Act.put, List.setIfInBounds_toArray, List.set_cons_zero, List.set_cons_succ])
  go_cut [30] (fun v30 wc => ∃ (kq : Nat) (x30_7 : Bool), v30 = .bool x30_7 ∧ Aside0 (formelaw20_FloatsMatchesReference.j0 kq l0 a1 a2 a3 a4 a5 t219 x30_7 = some r) ∧ Aside0 (kq ≤ k) ∧ Aside0 (Below w.heap.size w wc))
  case first =>
    have H := HC8.out
    clear HC8
    by_cases c10 : (l0.length : Int) > 30
    · rw [if_pos c10] at H
      have c10b0 : decide (30 < (l0.length : Int)) = true := decide_eq_true c10
      have c10b1 : decide (30 < l0.length) = true := decide_eq_true (by omega)
      clear c10
      (skip)
      have H' := Aside0.mk H
      clear H
      go_wp2
      go_meet
      case rel => exact ⟨_, (decide ((l0.length : Int) < 200)), (by rfl), H', ⟨by omega⟩, ⟨by repeat ((with_reducible exact HB.out))⟩⟩
    · rw [if_neg c10] at H
      have c10b0 : decide (30 < (l0.length : Int)) = false := decide_eq_false c10
      have c10b1 : decide (30 < l0.length) = false := decide_eq_false (by omega)
      clear c10
      (skip)
      have H' := Aside0.mk H
      clear H
      go_wp2
      go_meet
      case rel => exact ⟨_, (false), (by rfl), H', ⟨by omega⟩, ⟨by repeat ((with_reducible exact HB.out))⟩⟩
  case rest =>
    clear HC8
    obtain ⟨kq, x30_7, rfl, HA, HJ7, HB⟩ := hcut
    cases kq with
    | zero => exact absurd HA.out (by simp [formelaw20_FloatsMatchesReference.j0])
    | succ kj7 =>
      have H := HA.out
      clear HA
      simp only [formelaw20_FloatsMatchesReference.j0] at H
      by_cases c11 : x30_7 = true
      · subst c11
        have H1 : (some t219) = some r := by rw [if_pos rfl] at H; exact H
        clear H
        have H := H1
        clear H1
        obtain rfl := Option.some.inj H
        go_wp2
        go_ret
        exact ⟨by rfl, by repeat ((with_reducible exact HB.out))⟩
      · replace c11 := Bool.eq_false_iff.mpr c11
        subst c11
        have H1 : ((floats_Room.f kj7 l0 a1 a3 a5).bind fun bt220 => ((formeref20_Room.f kj7 l0 a1 a3 a5).bind fun bt224 => (if t219 = true then ((floats_Valid.f l0 a1).bind fun t228 => ((formeref20_Valid.f kj7 l0 a1).bind fun t229 => (if (t228 == t229) = true then (if (bt220.1 == bt224.1 && (bt220.2.1 == bt224.2.1)) = true then (formelaw20_FloatsMatchesReference.j1 kj7 l0 a1 a2 a3 a4 a5 (bt220.2.2 == bt224.2.2)) else (formelaw20_FloatsMatchesReference.j1 kj7 l0 a1 a2 a3 a4 a5 false)) else (formelaw20_FloatsMatchesReference.j1 kj7 l0 a1 a2 a3 a4 a5 false)))) else (formelaw20_FloatsMatchesReference.j1 kj7 l0 a1 a2 a3 a4 a5 false)))) = some r := by rw [if_neg (show ¬ (false = true) by decide)] at H; exact H
        clear H
        have H := H1
        clear H1
        replace H := Option.bind_eq_some_iff.mp H
        obtain ⟨⟨t220, t221, t222⟩, A120, H⟩ := H
        replace H : ((formeref20_Room.f kj7 l0 a1 a3 a5).bind fun bt224 => (if t219 = true then ((floats_Valid.f l0 a1).bind fun t228 => ((formeref20_Valid.f kj7 l0 a1).bind fun t229 => (if (t228 == t229) = true then (if (t220 == bt224.1 && (t221 == bt224.2.1)) = true then (formelaw20_FloatsMatchesReference.j1 kj7 l0 a1 a2 a3 a4 a5 (t222 == bt224.2.2)) else (formelaw20_FloatsMatchesReference.j1 kj7 l0 a1 a2 a3 a4 a5 false)) else (formelaw20_FloatsMatchesReference.j1 kj7 l0 a1 a2 a3 a4 a5 false)))) else (formelaw20_FloatsMatchesReference.j1 kj7 l0 a1 a2 a3 a4 a5 false))) = some r := H
        have A12 := Aside0.mk A120
        clear A120
        replace H := Option.bind_eq_some_iff.mp H
        obtain ⟨⟨t224, t225, t226⟩, A130, H⟩ := H
        replace H : (if t219 = true then ((floats_Valid.f l0 a1).bind fun t228 => ((formeref20_Valid.f kj7 l0 a1).bind fun t229 => (if (t228 == t229) = true then (if (t220 == t224 && (t221 == t225)) = true then (formelaw20_FloatsMatchesReference.j1 kj7 l0 a1 a2 a3 a4 a5 (t222 == t226)) else (formelaw20_FloatsMatchesReference.j1 kj7 l0 a1 a2 a3 a4 a5 false)) else (formelaw20_FloatsMatchesReference.j1 kj7 l0 a1 a2 a3 a4 a5 false)))) else (formelaw20_FloatsMatchesReference.j1 kj7 l0 a1 a2 a3 a4 a5 false)) = some r := H
        have A13 := Aside0.mk A130
        clear A130
        have HC14 := Aside0.mk H
        clear H
        go_upto_region 6 with (first | ((with_reducible refine gate_callee (f := 10) rfl ?_); refine goesL_ (some 37) rfl rfl Try.func10 (by kernel_rfl) rfl #[.slice A0 l0.length c0, .int .i64 a1, .int .i64 a3, .int .i64 a5] rfl (by (try simp only [List.map_toArray, List.map_cons, List.map_nil]); rfl) ?_; (with_reducible refine (floats_Room.calls kj7 _ _ l0 a1 a3 a5 t220 t221 t222 _ ?side1 ?side2 A12.out).mono ?_); (case side1 => repeat (exact (Kd.C_below HR0.out HB.out))); (case side2 => exact HC0.out); rintro e w15 ⟨rfl, hb⟩; refine ⟨_, rfl, ?_⟩; have n0_ := Aside0.mk (below_step (by repeat ((with_reducible exact HB.out))) hb); clear HB; have HB := n0_; clear n0_; (try clear hb)) | ((with_reducible refine gate_dst (N := 14) rfl ?_); (try (refine gate_guard (by rfl) ?_; dsimp only)); refine box_event ?hg (N := 14) ?hd (cs := #[.int .i64 0, .int .i64 0]) (t := 25) ?hr ?_; (case hd => rfl); (case hg => rfl); (case hr => (go_simp; done)); intro gb223 hg w16 hbox hb; have n0_ := Aside0.mk (below_step (by repeat ((with_reducible exact HB.out))) hb); have n1_ := Aside0.mk (hbox); have n2_ := Aside0.mk ((by rw [hg]; exact (below_size (by repeat ((with_reducible exact HB.out)))) : w.heap.size ≤ gb223)); have n3_ := Aside0.mk ((by rw [hg]; exact (below_size (by repeat ((with_reducible exact HB.out)))) : w.heap.size ≤ gb223)); clear HB; have HB := n0_; have BK223 := n1_; have GW223 := n2_; have GE223 := n3_; clear n0_ n1_ n2_ n3_; clear hb hbox hg; have hcz17_0 : w16.cell? ⟨gb223, 0, none⟩ = some (.int .i64 0) := (blk_cell BK223.out 0).trans rfl; have hcz17_1 : w16.cell? ⟨gb223, 1, none⟩ = some (.int .i64 0) := (blk_cell BK223.out 1).trans rfl; have hfz17_0 := blk_frozen BK223.out 0; have hfz17_1 := blk_frozen BK223.out 1) | ((with_reducible refine gate_callee (f := 11) rfl ?_); refine goesL_ (some 45) rfl rfl Try.func11 (by kernel_rfl) rfl #[.slice A0 l0.length c0, .int .i64 a1, .int .i64 a3, .int .i64 a5] rfl (by (try simp only [List.map_toArray, List.map_cons, List.map_nil]); rfl) ?_; (with_reducible refine (formeref20_Room.calls kj7 _ _ l0 a1 a3 a5 t224 t225 t226 _ ?side1 ?side2 A13.out).mono ?_); (case side1 => exact Kd.C_below HR0.out (by repeat ((with_reducible first | exact HB.out | refine below_set ?_ GE223.out)))); (case side2 => exact HC0.out); rintro e w18 ⟨rfl, hb⟩; refine ⟨_, rfl, ?_⟩; have n0_ := Aside0.mk (blk_below (g := gb223) (o := .cells #[.int .i64 t220, .int .i64 t221] 25 (0, 0)) (by (with_reducible repeat (fail)); refine blk_put (cs := #[.int .i64 t220, .int .i64 0]) ?_ 1 _ rfl; (with_reducible repeat (fail)); refine blk_put (cs := #[.int .i64 0, .int .i64 0]) ?_ 0 _ rfl; (with_reducible repeat (fail)); exact BK223.out) hb); have n1_ := Aside0.mk (below_step (by repeat ((with_reducible first | exact HB.out | refine below_set ?_ GE223.out))) hb); clear BK223; clear HB; have BK223 := n0_; have HB := n1_; clear n0_ n1_; (try clear hb)) | ((with_reducible refine gate_dst (N := 16) rfl ?_); (try (refine gate_guard (by rfl) ?_; dsimp only)); refine box_event ?hg (N := 16) ?hd (cs := #[.int .i64 0, .int .i64 0]) (t := 25) ?hr ?_; (case hd => rfl); (case hg => rfl); (case hr => (go_simp; done)); intro gb227 hg w19 hbox hb; have n0_ := Aside0.mk (blk_below (g := gb223) (o := .cells #[.int .i64 t220, .int .i64 t221] 25 (0, 0)) (by (with_reducible repeat (fail)); exact BK223.out) hb); have n1_ := Aside0.mk (below_step (by repeat ((with_reducible exact HB.out))) hb); have n2_ := Aside0.mk (hbox); have n3_ := Aside0.mk ((by rw [hg]; exact (below_size (by repeat ((with_reducible exact HB.out)))) : w.heap.size ≤ gb227)); have n4_ := Aside0.mk ((by rw [hg]; exact (below_size (by repeat ((with_reducible exact HB.out)))) : w.heap.size ≤ gb227)); have n5_ := Aside0.mk ((by rw [hg]; exact Nat.ne_of_lt (blk_lt (g := gb223) (o := .cells #[.int .i64 t220, .int .i64 t221] 25 (0, 0)) (by (with_reducible repeat (fail)); exact BK223.out)) : gb223 ≠ gb227)); have n6_ := Aside0.mk ((by rw [hg]; exact Nat.ne_of_gt (blk_lt (g := gb223) (o := .cells #[.int .i64 t220, .int .i64 t221] 25 (0, 0)) (by (with_reducible repeat (fail)); exact BK223.out)) : gb227 ≠ gb223)); clear BK223; clear HB; have BK223 := n0_; have HB := n1_; have BK227 := n2_; have GW227 := n3_; have GE227 := n4_; have NB223_227 := n5_; have NB227_223 := n6_; clear n0_ n1_ n2_ n3_ n4_ n5_ n6_; clear hb hbox hg; have hnb20 := NB227_223.out; have hnc20 := NB223_227.out; have hcz21_0 : w19.cell? ⟨gb227, 0, none⟩ = some (.int .i64 0) := (blk_cell BK227.out 0).trans rfl; have hcz21_1 : w19.cell? ⟨gb227, 1, none⟩ = some (.int .i64 0) := (blk_cell BK227.out 1).trans rfl; have hfz21_0 := blk_frozen BK227.out 0; have hfz21_1 := blk_frozen BK227.out 1))
        (try simp only [Act.put, List.setIfInBounds_toArray, List.set_cons_zero, List.set_cons_succ])
        go_cut [13] (fun v13 wc => ∃ (kq : Nat) (x13_13 : Bool), v13 = .bool x13_13 ∧ Aside0 (formelaw20_FloatsMatchesReference.j1 kq l0 a1 a2 a3 a4 a5 x13_13 = some r) ∧ Aside0 (kq ≤ kj7) ∧ Aside0 (wc.heap[gb223]? = some (.cells #[.int .i64 t220, .int .i64 t221] 25 (0, 0))) ∧ Aside0 (wc.heap[gb227]? = some (.cells #[.int .i64 t224, .int .i64 t225] 25 (0, 0))) ∧ Aside0 (Below w.heap.size w wc))
        case first =>
          have H := HC14.out
          clear HC14
          by_cases c22 : t219 = true
          · subst c22
            have H1 : ((floats_Valid.f l0 a1).bind fun t228 => ((formeref20_Valid.f kj7 l0 a1).bind fun t229 => (if (t228 == t229) = true then (if (t220 == t224 && (t221 == t225)) = true then (formelaw20_FloatsMatchesReference.j1 kj7 l0 a1 a2 a3 a4 a5 (t222 == t226)) else (formelaw20_FloatsMatchesReference.j1 kj7 l0 a1 a2 a3 a4 a5 false)) else (formelaw20_FloatsMatchesReference.j1 kj7 l0 a1 a2 a3 a4 a5 false)))) = some r := by rw [if_pos rfl] at H; exact H
            clear H
            have H := H1
            clear H1
            replace H := Option.bind_eq_some_iff.mp H
            obtain ⟨t228, A230, H⟩ := H
            replace H : ((formeref20_Valid.f kj7 l0 a1).bind fun t229 => (if (t228 == t229) = true then (if (t220 == t224 && (t221 == t225)) = true then (formelaw20_FloatsMatchesReference.j1 kj7 l0 a1 a2 a3 a4 a5 (t222 == t226)) else (formelaw20_FloatsMatchesReference.j1 kj7 l0 a1 a2 a3 a4 a5 false)) else (formelaw20_FloatsMatchesReference.j1 kj7 l0 a1 a2 a3 a4 a5 false))) = some r := H
            have A23 := Aside0.mk A230
            clear A230
            replace H := Option.bind_eq_some_iff.mp H
            obtain ⟨t229, A240, H⟩ := H
            replace H : (if (t228 == t229) = true then (if (t220 == t224 && (t221 == t225)) = true then (formelaw20_FloatsMatchesReference.j1 kj7 l0 a1 a2 a3 a4 a5 (t222 == t226)) else (formelaw20_FloatsMatchesReference.j1 kj7 l0 a1 a2 a3 a4 a5 false)) else (formelaw20_FloatsMatchesReference.j1 kj7 l0 a1 a2 a3 a4 a5 false)) = some r := H
            have A24 := Aside0.mk A240
            clear A240
            by_cases c25 : (t228 == t229) = true
            · rw [if_pos c25] at H
              have c25b0 : (t228 == t229) = true := c25
              (try (have c25b1 : decide (t228 = t229) = true := by simpa using c25))
              (try (have c25b2 : (t228 == t229) = true := by simpa using c25))
              clear c25
              (skip)
              by_cases c26 : (t220 == t224 && (t221 == t225)) = true
              · rw [if_pos c26] at H
                have c26b0 : (t220 == t224 && (t221 == t225)) = true := c26
                (try (have c26b1 : decide (t220 = t224 && (t221 == t225)) = true := by simpa using c26))
                (try (have c26b2 : (t220 == t224 && (t221 == t225)) = true := by simpa using c26))
                clear c26
                have H' := Aside0.mk H
                clear H
                go_wp2_with (first | (go_at_call 12; (with_reducible refine (floats_Valid.calls _ _ l0 a1 t228 _ ?side1 ?side2 A23.out).mono ?_); (case side1 => exact Kd.C_below HR0.out (by repeat ((with_reducible first | exact HB.out | refine below_set ?_ GE227.out)))); (case side2 => exact HC0.out); rintro e w27 ⟨rfl, hb⟩; have n0_ := Aside0.mk (blk_below (g := gb223) (o := .cells #[.int .i64 t220, .int .i64 t221] 25 (0, 0)) (by (with_reducible repeat (fail)); refine blk_far ?_ NB223_227.out _; (with_reducible repeat (fail)); refine blk_far ?_ NB223_227.out _; (with_reducible repeat (fail)); exact BK223.out) hb); have n1_ := Aside0.mk (blk_below (g := gb227) (o := .cells #[.int .i64 t224, .int .i64 t225] 25 (0, 0)) (by (with_reducible repeat (fail)); refine blk_put (cs := #[.int .i64 t224, .int .i64 0]) ?_ 1 _ rfl; (with_reducible repeat (fail)); refine blk_put (cs := #[.int .i64 0, .int .i64 0]) ?_ 0 _ rfl; (with_reducible repeat (fail)); exact BK227.out) hb); have n2_ := Aside0.mk (below_step (by repeat ((with_reducible first | exact HB.out | refine below_set ?_ GE227.out))) hb); clear BK223; clear BK227; clear HB; have BK223 := n0_; have BK227 := n1_; have HB := n2_; clear n0_ n1_ n2_; (try clear hb)) | (go_at_call 13; (with_reducible refine (formeref20_Valid.calls kj7 _ _ l0 a1 t229 _ ?side1 ?side2 A24.out).mono ?_); (case side1 => repeat (exact (Kd.C_below HR0.out HB.out))); (case side2 => exact HC0.out); rintro e w' ⟨rfl, ⟨nd, rfl⟩⟩; have hnb28 := NB223_227.out; have hnc28 := NB227_223.out; have hcz29_0 : w27.cell? ⟨gb223, 0, none⟩ = some (.int .i64 t220) := (blk_cell BK223.out 0).trans rfl; have hcz29_1 : w27.cell? ⟨gb223, 1, none⟩ = some (.int .i64 t221) := (blk_cell BK223.out 1).trans rfl; have hfz29_0 := blk_frozen BK223.out 0; have hfz29_1 := blk_frozen BK223.out 1; have hcz30_0 : w27.cell? ⟨gb227, 0, none⟩ = some (.int .i64 t224) := (blk_cell BK227.out 0).trans rfl; have hcz30_1 : w27.cell? ⟨gb227, 1, none⟩ = some (.int .i64 t225) := (blk_cell BK227.out 1).trans rfl; have hfz30_0 := blk_frozen BK227.out 0; have hfz30_1 := blk_frozen BK227.out 1))
                go_meet
                case rel => exact ⟨_, ((t222 == t226)), (by rfl), H', ⟨by have := HJ7.out; omega⟩, ⟨by (with_reducible repeat (refine blk_drewN ?_ _)); exact BK223.out⟩, ⟨by (with_reducible repeat (refine blk_drewN ?_ _)); exact BK227.out⟩, ⟨by repeat ((with_reducible first | exact HB.out | apply pw_below_drewN))⟩⟩
              · rw [if_neg c26] at H
                have c26b0 : (t220 == t224 && (t221 == t225)) = false := by simpa using c26
                (try (have c26b1 : decide (t220 = t224 && (t221 == t225)) = false := by simpa using c26))
                (try (have c26b2 : (t220 == t224 && (t221 == t225)) = false := by simpa using c26))
                (try (have c26b3 : ¬ (t220 = t224 && (t221 == t225)) := by simpa using c26))
                clear c26
                have H' := Aside0.mk H
                clear H
                go_wp2_with (first | (go_at_call 12; (with_reducible refine (floats_Valid.calls _ _ l0 a1 t228 _ ?side1 ?side2 A23.out).mono ?_); (case side1 => exact Kd.C_below HR0.out (by repeat ((with_reducible first | exact HB.out | refine below_set ?_ GE227.out)))); (case side2 => exact HC0.out); rintro e w31 ⟨rfl, hb⟩; have n0_ := Aside0.mk (blk_below (g := gb223) (o := .cells #[.int .i64 t220, .int .i64 t221] 25 (0, 0)) (by (with_reducible repeat (fail)); refine blk_far ?_ NB223_227.out _; (with_reducible repeat (fail)); refine blk_far ?_ NB223_227.out _; (with_reducible repeat (fail)); exact BK223.out) hb); have n1_ := Aside0.mk (blk_below (g := gb227) (o := .cells #[.int .i64 t224, .int .i64 t225] 25 (0, 0)) (by (with_reducible repeat (fail)); refine blk_put (cs := #[.int .i64 t224, .int .i64 0]) ?_ 1 _ rfl; (with_reducible repeat (fail)); refine blk_put (cs := #[.int .i64 0, .int .i64 0]) ?_ 0 _ rfl; (with_reducible repeat (fail)); exact BK227.out) hb); have n2_ := Aside0.mk (below_step (by repeat ((with_reducible first | exact HB.out | refine below_set ?_ GE227.out))) hb); clear BK223; clear BK227; clear HB; have BK223 := n0_; have BK227 := n1_; have HB := n2_; clear n0_ n1_ n2_; (try clear hb)) | (go_at_call 13; (with_reducible refine (formeref20_Valid.calls kj7 _ _ l0 a1 t229 _ ?side1 ?side2 A24.out).mono ?_); (case side1 => repeat (exact (Kd.C_below HR0.out HB.out))); (case side2 => exact HC0.out); rintro e w' ⟨rfl, ⟨nd, rfl⟩⟩; have hnb32 := NB223_227.out; have hnc32 := NB227_223.out; have hcz33_0 : w31.cell? ⟨gb223, 0, none⟩ = some (.int .i64 t220) := (blk_cell BK223.out 0).trans rfl; have hcz33_1 : w31.cell? ⟨gb223, 1, none⟩ = some (.int .i64 t221) := (blk_cell BK223.out 1).trans rfl; have hfz33_0 := blk_frozen BK223.out 0; have hfz33_1 := blk_frozen BK223.out 1; have hcz34_0 : w31.cell? ⟨gb227, 0, none⟩ = some (.int .i64 t224) := (blk_cell BK227.out 0).trans rfl; have hcz34_1 : w31.cell? ⟨gb227, 1, none⟩ = some (.int .i64 t225) := (blk_cell BK227.out 1).trans rfl; have hfz34_0 := blk_frozen BK227.out 0; have hfz34_1 := blk_frozen BK227.out 1))
                go_meet
                case rel => exact ⟨_, (false), (by rfl), H', ⟨by have := HJ7.out; omega⟩, ⟨by (with_reducible repeat (refine blk_drewN ?_ _)); exact BK223.out⟩, ⟨by (with_reducible repeat (refine blk_drewN ?_ _)); exact BK227.out⟩, ⟨by repeat ((with_reducible first | exact HB.out | apply pw_below_drewN))⟩⟩
            · rw [if_neg c25] at H
              have c25b0 : (t228 == t229) = false := by simpa using c25
              (try (have c25b1 : decide (t228 = t229) = false := by simpa using c25))
              (try (have c25b2 : (t228 == t229) = false := by simpa using c25))
              (try (have c25b3 : ¬ (t228 = t229) := by simpa using c25))
              clear c25
              (skip)
              have H' := Aside0.mk H
              clear H
              go_wp2_with (first | (go_at_call 12; (with_reducible refine (floats_Valid.calls _ _ l0 a1 t228 _ ?side1 ?side2 A23.out).mono ?_); (case side1 => exact Kd.C_below HR0.out (by repeat ((with_reducible first | exact HB.out | refine below_set ?_ GE227.out)))); (case side2 => exact HC0.out); rintro e w35 ⟨rfl, hb⟩; have n0_ := Aside0.mk (blk_below (g := gb223) (o := .cells #[.int .i64 t220, .int .i64 t221] 25 (0, 0)) (by (with_reducible repeat (fail)); refine blk_far ?_ NB223_227.out _; (with_reducible repeat (fail)); refine blk_far ?_ NB223_227.out _; (with_reducible repeat (fail)); exact BK223.out) hb); have n1_ := Aside0.mk (blk_below (g := gb227) (o := .cells #[.int .i64 t224, .int .i64 t225] 25 (0, 0)) (by (with_reducible repeat (fail)); refine blk_put (cs := #[.int .i64 t224, .int .i64 0]) ?_ 1 _ rfl; (with_reducible repeat (fail)); refine blk_put (cs := #[.int .i64 0, .int .i64 0]) ?_ 0 _ rfl; (with_reducible repeat (fail)); exact BK227.out) hb); have n2_ := Aside0.mk (below_step (by repeat ((with_reducible first | exact HB.out | refine below_set ?_ GE227.out))) hb); clear BK223; clear BK227; clear HB; have BK223 := n0_; have BK227 := n1_; have HB := n2_; clear n0_ n1_ n2_; (try clear hb)) | (go_at_call 13; (with_reducible refine (formeref20_Valid.calls kj7 _ _ l0 a1 t229 _ ?side1 ?side2 A24.out).mono ?_); (case side1 => repeat (exact (Kd.C_below HR0.out HB.out))); (case side2 => exact HC0.out); rintro e w' ⟨rfl, ⟨nd, rfl⟩⟩))
              go_meet
              case rel => exact ⟨_, (false), (by rfl), H', ⟨by have := HJ7.out; omega⟩, ⟨by (with_reducible repeat (refine blk_drewN ?_ _)); exact BK223.out⟩, ⟨by (with_reducible repeat (refine blk_drewN ?_ _)); exact BK227.out⟩, ⟨by repeat ((with_reducible first | exact HB.out | apply pw_below_drewN))⟩⟩
          · replace c22 := Bool.eq_false_iff.mpr c22
            subst c22
            have H1 : (formelaw20_FloatsMatchesReference.j1 kj7 l0 a1 a2 a3 a4 a5 false) = some r := by rw [if_neg (show ¬ (false = true) by decide)] at H; exact H
            clear H
            have H := H1
            clear H1
            have H' := Aside0.mk H
            clear H
            go_wp2
            go_meet
            case rel => exact ⟨_, (false), (by rfl), H', ⟨by have := HJ7.out; omega⟩, ⟨by (with_reducible repeat (fail)); refine blk_far ?_ NB223_227.out _; (with_reducible repeat (fail)); refine blk_far ?_ NB223_227.out _; (with_reducible repeat (fail)); exact BK223.out⟩, ⟨by (with_reducible repeat (fail)); refine blk_put (cs := #[.int .i64 t224, .int .i64 0]) ?_ 1 _ rfl; (with_reducible repeat (fail)); refine blk_put (cs := #[.int .i64 0, .int .i64 0]) ?_ 0 _ rfl; (with_reducible repeat (fail)); exact BK227.out⟩, ⟨by repeat ((with_reducible first | exact HB.out | refine below_set ?_ GE227.out))⟩⟩
        case rest =>
          clear HC14
          try clear hcz17_0
          try clear hcz17_1
          try clear hcz21_0
          try clear hcz21_1
          try clear hfz17_0
          try clear hfz17_1
          try clear hfz21_0
          try clear hfz21_1
          obtain ⟨kq, x13_13, rfl, HA, HJ13, BK223, BK227, HB⟩ := hcut
          cases kq with
          | zero => exact absurd HA.out (by simp [formelaw20_FloatsMatchesReference.j1])
          | succ kj13 =>
            have H := HA.out
            clear HA
            simp only [formelaw20_FloatsMatchesReference.j1] at H
            replace H := Option.bind_eq_some_iff.mp H
            obtain ⟨⟨t230, t231⟩, A360, H⟩ := H
            replace H : ((formeref20_Below.f kj13 l0 a1 a2).bind fun bt232 => (if x13_13 = true then (if t230 = bt232.1 then ((floats_Place.f l0 a1 a2 a3 a4 a5).bind fun bt234 => ((formeref20_Place.f kj13 l0 a1 a2 a3 a4 a5).bind fun bt238 => (if t231 = bt232.2 then ((formeref20_Same.f kj13 bt234.1 bt238.1).bind fun t242 => (if t242 = true then (some (bt234.2 == bt238.2)) else (some false))) else (some false)))) else ((floats_Place.f l0 a1 a2 a3 a4 a5).bind fun bt243 => ((formeref20_Place.f kj13 l0 a1 a2 a3 a4 a5).bind fun bt247 => (some false)))) else ((floats_Place.f l0 a1 a2 a3 a4 a5).bind fun bt251 => ((formeref20_Place.f kj13 l0 a1 a2 a3 a4 a5).bind fun bt255 => (some false))))) = some r := H
            have A36 := Aside0.mk A360
            clear A360
            replace H := Option.bind_eq_some_iff.mp H
            obtain ⟨⟨t232, t233⟩, A370, H⟩ := H
            replace H : (if x13_13 = true then (if t230 = t232 then ((floats_Place.f l0 a1 a2 a3 a4 a5).bind fun bt234 => ((formeref20_Place.f kj13 l0 a1 a2 a3 a4 a5).bind fun bt238 => (if t231 = t233 then ((formeref20_Same.f kj13 bt234.1 bt238.1).bind fun t242 => (if t242 = true then (some (bt234.2 == bt238.2)) else (some false))) else (some false)))) else ((floats_Place.f l0 a1 a2 a3 a4 a5).bind fun bt243 => ((formeref20_Place.f kj13 l0 a1 a2 a3 a4 a5).bind fun bt247 => (some false)))) else ((floats_Place.f l0 a1 a2 a3 a4 a5).bind fun bt251 => ((formeref20_Place.f kj13 l0 a1 a2 a3 a4 a5).bind fun bt255 => (some false)))) = some r := H
            have A37 := Aside0.mk A370
            clear A370
            by_cases c38 : x13_13 = true
            · subst c38
              have H1 : (if t230 = t232 then ((floats_Place.f l0 a1 a2 a3 a4 a5).bind fun bt234 => ((formeref20_Place.f kj13 l0 a1 a2 a3 a4 a5).bind fun bt238 => (if t231 = t233 then ((formeref20_Same.f kj13 bt234.1 bt238.1).bind fun t242 => (if t242 = true then (some (bt234.2 == bt238.2)) else (some false))) else (some false)))) else ((floats_Place.f l0 a1 a2 a3 a4 a5).bind fun bt243 => ((formeref20_Place.f kj13 l0 a1 a2 a3 a4 a5).bind fun bt247 => (some false)))) = some r := by rw [if_pos rfl] at H; exact H
              clear H
              have H := H1
              clear H1
              by_cases c39 : t230 = t232
              · rw [if_pos c39] at H
                have c39b0 : (t230 == t232) = true := beq_iff_eq.mpr c39
                have c39b1 : (t230 != t232) = false := bne_eq_false_iff_eq.mpr c39
                clear c39
                replace H := Option.bind_eq_some_iff.mp H
                obtain ⟨⟨t234, t235⟩, A400, H⟩ := H
                replace H : ((formeref20_Place.f kj13 l0 a1 a2 a3 a4 a5).bind fun bt238 => (if t231 = t233 then ((formeref20_Same.f kj13 t234 bt238.1).bind fun t242 => (if t242 = true then (some (t235 == bt238.2)) else (some false))) else (some false))) = some r := H
                have A40 := Aside0.mk A400
                clear A400
                replace H := Option.bind_eq_some_iff.mp H
                obtain ⟨⟨t238, t239⟩, A410, H⟩ := H
                replace H : (if t231 = t233 then ((formeref20_Same.f kj13 t234 t238).bind fun t242 => (if t242 = true then (some (t235 == t239)) else (some false))) else (some false)) = some r := H
                have A41 := Aside0.mk A410
                clear A410
                by_cases c42 : t231 = t233
                · rw [if_pos c42] at H
                  have c42b0 : (t231 == t233) = true := beq_iff_eq.mpr c42
                  have c42b1 : (t231 != t233) = false := bne_eq_false_iff_eq.mpr c42
                  clear c42
                  replace H := Option.bind_eq_some_iff.mp H
                  obtain ⟨t242, A430, H⟩ := H
                  replace H : (if t242 = true then (some (t235 == t239)) else (some false)) = some r := H
                  have A43 := Aside0.mk A430
                  clear A430
                  by_cases c44 : t242 = true
                  · subst c44
                    have H1 : (some (t235 == t239)) = some r := by rw [if_pos rfl] at H; exact H
                    clear H
                    have H := H1
                    clear H1
                    obtain rfl := Option.some.inj H
                    go_wp2_with (first | ((with_reducible refine gate_callee (f := 14) rfl ?_); refine goesL_ (some 72) rfl rfl Try.func14 (by kernel_rfl) rfl #[.slice A0 l0.length c0, .int .i64 a1, .int .i64 a2] rfl (by (try simp only [List.map_toArray, List.map_cons, List.map_nil]); rfl) ?_; (with_reducible refine (floats_Below.calls kj13 _ _ l0 a1 a2 t230 t231 _ ?side1 ?side2 A36.out).mono ?_); (case side1 => repeat (exact (Kd.C_below HR0.out HB.out))); (case side2 => exact HC0.out); rintro e w45 ⟨rfl, hb⟩; refine ⟨_, rfl, ?_⟩; have n0_ := Aside0.mk (blk_below (g := gb223) (o := .cells #[.int .i64 t220, .int .i64 t221] 25 (0, 0)) (by (with_reducible repeat (fail)); exact BK223.out) hb); have n1_ := Aside0.mk (blk_below (g := gb227) (o := .cells #[.int .i64 t224, .int .i64 t225] 25 (0, 0)) (by (with_reducible repeat (fail)); exact BK227.out) hb); have n2_ := Aside0.mk (below_step (by repeat ((with_reducible exact HB.out))) hb); clear BK223; clear BK227; clear HB; have BK223 := n0_; have BK227 := n1_; have HB := n2_; clear n0_ n1_ n2_; (try clear hb)) | ((with_reducible refine gate_callee (f := 15) rfl ?_); refine goesL_ (some 79) rfl rfl Try.func15 (by kernel_rfl) rfl #[.slice A0 l0.length c0, .int .i64 a1, .int .i64 a2] rfl (by (try simp only [List.map_toArray, List.map_cons, List.map_nil]); rfl) ?_; (with_reducible refine (formeref20_Below.calls kj13 _ _ l0 a1 a2 t232 t233 _ ?side1 ?side2 A37.out).mono ?_); (case side1 => repeat (exact (Kd.C_below HR0.out HB.out))); (case side2 => exact HC0.out); rintro e w46 ⟨rfl, hb⟩; refine ⟨_, rfl, ?_⟩; have n0_ := Aside0.mk (blk_below (g := gb223) (o := .cells #[.int .i64 t220, .int .i64 t221] 25 (0, 0)) (by (with_reducible repeat (fail)); exact BK223.out) hb); have n1_ := Aside0.mk (blk_below (g := gb227) (o := .cells #[.int .i64 t224, .int .i64 t225] 25 (0, 0)) (by (with_reducible repeat (fail)); exact BK227.out) hb); have n2_ := Aside0.mk (below_step (by repeat ((with_reducible exact HB.out))) hb); clear BK223; clear BK227; clear HB; have BK223 := n0_; have BK227 := n1_; have HB := n2_; clear n0_ n1_ n2_; (try clear hb)) | ((with_reducible refine gate_callee (f := 16) rfl ?_); refine goesL_ (some 100) rfl rfl Try.func16 (by kernel_rfl) rfl #[.slice A0 l0.length c0, .int .i64 a1, .int .i64 a2, .int .i64 a3, .int .i64 a4, .int .i64 a5] rfl (by (try simp only [List.map_toArray, List.map_cons, List.map_nil]); rfl) ?_; (with_reducible refine (floats_Place.calls _ _ l0 a1 a2 a3 a4 a5 t234 t235 _ ?side1 ?side2 A40.out).mono ?_); (case side1 => repeat (exact (Kd.C_below HR0.out HB.out))); (case side2 => exact HC0.out); rintro e w47 ⟨v236, rfl, ho0, hb⟩; refine ⟨_, rfl, ?_⟩; have n0_ := Aside0.mk (Kd.R_lower ho0 (below_size (by repeat ((with_reducible exact HB.out))))); have n1_ := Aside0.mk (blk_below (g := gb223) (o := .cells #[.int .i64 t220, .int .i64 t221] 25 (0, 0)) (by (with_reducible repeat (fail)); exact BK223.out) hb); have n2_ := Aside0.mk (blk_below (g := gb227) (o := .cells #[.int .i64 t224, .int .i64 t225] 25 (0, 0)) (by (with_reducible repeat (fail)); exact BK227.out) hb); have n3_ := Aside0.mk (below_step (by repeat ((with_reducible exact HB.out))) hb); clear BK223; clear BK227; clear HB; have HO237 := n0_; have BK223 := n1_; have BK227 := n2_; have HB := n3_; clear n0_ n1_ n2_ n3_; (try clear hb); (try clear ho0)) | ((with_reducible refine gate_callee (f := 17) rfl ?_); refine goesL_ (some 110) rfl rfl Try.func17 (by kernel_rfl) rfl #[.slice A0 l0.length c0, .int .i64 a1, .int .i64 a2, .int .i64 a3, .int .i64 a4, .int .i64 a5] rfl (by (try simp only [List.map_toArray, List.map_cons, List.map_nil]); rfl) ?_; (with_reducible refine (formeref20_Place.calls kj13 _ _ l0 a1 a2 a3 a4 a5 t238 t239 _ ?side1 ?side2 A41.out).mono ?_); (case side1 => repeat (exact (Kd.C_below HR0.out HB.out))); (case side2 => exact HC0.out); rintro e w48 ⟨v240, rfl, ho0, hb⟩; refine ⟨_, rfl, ?_⟩; have n0_ := Aside0.mk (Kd.R_elder' (by (with_reducible repeat (fail)); exact HO237.out) (Kd.R_base ho0) hb); have n1_ := Aside0.mk (Kd.R_lower (Kd.R_new' ho0 (Kd.R_lt (by (with_reducible repeat (fail)); exact HO237.out))) (below_size (by repeat ((with_reducible exact HB.out))))); have n2_ := Aside0.mk (blk_below (g := gb223) (o := .cells #[.int .i64 t220, .int .i64 t221] 25 (0, 0)) (by (with_reducible repeat (fail)); exact BK223.out) hb); have n3_ := Aside0.mk (blk_below (g := gb227) (o := .cells #[.int .i64 t224, .int .i64 t225] 25 (0, 0)) (by (with_reducible repeat (fail)); exact BK227.out) hb); have n4_ := Aside0.mk (below_step (by repeat ((with_reducible exact HB.out))) hb); clear HO237; clear BK223; clear BK227; clear HB; have HO237 := n0_; have HO241 := n1_; have BK223 := n2_; have BK227 := n3_; have HB := n4_; clear n0_ n1_ n2_ n3_ n4_; (try clear hb); (try clear ho0); obtain ⟨Ao49, co49, eo49⟩ := Kd.R_slice HO237.out; subst eo49; obtain ⟨Ao50, co50, eo50⟩ := Kd.R_slice HO241.out; subst eo50) | (go_at_call 18; (with_reducible refine (formeref20_Same.calls kj13 _ _ t234 _ _ t238 true _ ?side1 ?side2 ?side3 ?side4 A43.out).mono ?_); (case side1 => repeat (exact (Kd.R_reads' HO237.out).2.2)); (case side2 => exact (Kd.R_reads' HO237.out).2.1); (case side3 => repeat (exact (Kd.R_reads' HO241.out).2.2)); (case side4 => exact (Kd.R_reads' HO241.out).2.1); rintro e w' ⟨rfl, ⟨nd, rfl⟩⟩))
                    go_ret
                    exact ⟨by rfl, by repeat ((with_reducible first | exact HB.out | apply pw_below_drewN))⟩
                  · replace c44 := Bool.eq_false_iff.mpr c44
                    subst c44
                    have H1 : (some false) = some r := by rw [if_neg (show ¬ (false = true) by decide)] at H; exact H
                    clear H
                    have H := H1
                    clear H1
                    obtain rfl := Option.some.inj H
                    go_wp2_with (first | ((with_reducible refine gate_callee (f := 14) rfl ?_); refine goesL_ (some 72) rfl rfl Try.func14 (by kernel_rfl) rfl #[.slice A0 l0.length c0, .int .i64 a1, .int .i64 a2] rfl (by (try simp only [List.map_toArray, List.map_cons, List.map_nil]); rfl) ?_; (with_reducible refine (floats_Below.calls kj13 _ _ l0 a1 a2 t230 t231 _ ?side1 ?side2 A36.out).mono ?_); (case side1 => repeat (exact (Kd.C_below HR0.out HB.out))); (case side2 => exact HC0.out); rintro e w51 ⟨rfl, hb⟩; refine ⟨_, rfl, ?_⟩; have n0_ := Aside0.mk (blk_below (g := gb223) (o := .cells #[.int .i64 t220, .int .i64 t221] 25 (0, 0)) (by (with_reducible repeat (fail)); exact BK223.out) hb); have n1_ := Aside0.mk (blk_below (g := gb227) (o := .cells #[.int .i64 t224, .int .i64 t225] 25 (0, 0)) (by (with_reducible repeat (fail)); exact BK227.out) hb); have n2_ := Aside0.mk (below_step (by repeat ((with_reducible exact HB.out))) hb); clear BK223; clear BK227; clear HB; have BK223 := n0_; have BK227 := n1_; have HB := n2_; clear n0_ n1_ n2_; (try clear hb)) | ((with_reducible refine gate_callee (f := 15) rfl ?_); refine goesL_ (some 79) rfl rfl Try.func15 (by kernel_rfl) rfl #[.slice A0 l0.length c0, .int .i64 a1, .int .i64 a2] rfl (by (try simp only [List.map_toArray, List.map_cons, List.map_nil]); rfl) ?_; (with_reducible refine (formeref20_Below.calls kj13 _ _ l0 a1 a2 t232 t233 _ ?side1 ?side2 A37.out).mono ?_); (case side1 => repeat (exact (Kd.C_below HR0.out HB.out))); (case side2 => exact HC0.out); rintro e w52 ⟨rfl, hb⟩; refine ⟨_, rfl, ?_⟩; have n0_ := Aside0.mk (blk_below (g := gb223) (o := .cells #[.int .i64 t220, .int .i64 t221] 25 (0, 0)) (by (with_reducible repeat (fail)); exact BK223.out) hb); have n1_ := Aside0.mk (blk_below (g := gb227) (o := .cells #[.int .i64 t224, .int .i64 t225] 25 (0, 0)) (by (with_reducible repeat (fail)); exact BK227.out) hb); have n2_ := Aside0.mk (below_step (by repeat ((with_reducible exact HB.out))) hb); clear BK223; clear BK227; clear HB; have BK223 := n0_; have BK227 := n1_; have HB := n2_; clear n0_ n1_ n2_; (try clear hb)) | ((with_reducible refine gate_callee (f := 16) rfl ?_); refine goesL_ (some 100) rfl rfl Try.func16 (by kernel_rfl) rfl #[.slice A0 l0.length c0, .int .i64 a1, .int .i64 a2, .int .i64 a3, .int .i64 a4, .int .i64 a5] rfl (by (try simp only [List.map_toArray, List.map_cons, List.map_nil]); rfl) ?_; (with_reducible refine (floats_Place.calls _ _ l0 a1 a2 a3 a4 a5 t234 t235 _ ?side1 ?side2 A40.out).mono ?_); (case side1 => repeat (exact (Kd.C_below HR0.out HB.out))); (case side2 => exact HC0.out); rintro e w53 ⟨v236, rfl, ho0, hb⟩; refine ⟨_, rfl, ?_⟩; have n0_ := Aside0.mk (Kd.R_lower ho0 (below_size (by repeat ((with_reducible exact HB.out))))); have n1_ := Aside0.mk (blk_below (g := gb223) (o := .cells #[.int .i64 t220, .int .i64 t221] 25 (0, 0)) (by (with_reducible repeat (fail)); exact BK223.out) hb); have n2_ := Aside0.mk (blk_below (g := gb227) (o := .cells #[.int .i64 t224, .int .i64 t225] 25 (0, 0)) (by (with_reducible repeat (fail)); exact BK227.out) hb); have n3_ := Aside0.mk (below_step (by repeat ((with_reducible exact HB.out))) hb); clear BK223; clear BK227; clear HB; have HO237 := n0_; have BK223 := n1_; have BK227 := n2_; have HB := n3_; clear n0_ n1_ n2_ n3_; (try clear hb); (try clear ho0)) | ((with_reducible refine gate_callee (f := 17) rfl ?_); refine goesL_ (some 110) rfl rfl Try.func17 (by kernel_rfl) rfl #[.slice A0 l0.length c0, .int .i64 a1, .int .i64 a2, .int .i64 a3, .int .i64 a4, .int .i64 a5] rfl (by (try simp only [List.map_toArray, List.map_cons, List.map_nil]); rfl) ?_; (with_reducible refine (formeref20_Place.calls kj13 _ _ l0 a1 a2 a3 a4 a5 t238 t239 _ ?side1 ?side2 A41.out).mono ?_); (case side1 => repeat (exact (Kd.C_below HR0.out HB.out))); (case side2 => exact HC0.out); rintro e w54 ⟨v240, rfl, ho0, hb⟩; refine ⟨_, rfl, ?_⟩; have n0_ := Aside0.mk (Kd.R_elder' (by (with_reducible repeat (fail)); exact HO237.out) (Kd.R_base ho0) hb); have n1_ := Aside0.mk (Kd.R_lower (Kd.R_new' ho0 (Kd.R_lt (by (with_reducible repeat (fail)); exact HO237.out))) (below_size (by repeat ((with_reducible exact HB.out))))); have n2_ := Aside0.mk (blk_below (g := gb223) (o := .cells #[.int .i64 t220, .int .i64 t221] 25 (0, 0)) (by (with_reducible repeat (fail)); exact BK223.out) hb); have n3_ := Aside0.mk (blk_below (g := gb227) (o := .cells #[.int .i64 t224, .int .i64 t225] 25 (0, 0)) (by (with_reducible repeat (fail)); exact BK227.out) hb); have n4_ := Aside0.mk (below_step (by repeat ((with_reducible exact HB.out))) hb); clear HO237; clear BK223; clear BK227; clear HB; have HO237 := n0_; have HO241 := n1_; have BK223 := n2_; have BK227 := n3_; have HB := n4_; clear n0_ n1_ n2_ n3_ n4_; (try clear hb); (try clear ho0); obtain ⟨Ao55, co55, eo55⟩ := Kd.R_slice HO237.out; subst eo55; obtain ⟨Ao56, co56, eo56⟩ := Kd.R_slice HO241.out; subst eo56) | (go_at_call 18; (with_reducible refine (formeref20_Same.calls kj13 _ _ t234 _ _ t238 false _ ?side1 ?side2 ?side3 ?side4 A43.out).mono ?_); (case side1 => repeat (exact (Kd.R_reads' HO237.out).2.2)); (case side2 => exact (Kd.R_reads' HO237.out).2.1); (case side3 => repeat (exact (Kd.R_reads' HO241.out).2.2)); (case side4 => exact (Kd.R_reads' HO241.out).2.1); rintro e w' ⟨rfl, ⟨nd, rfl⟩⟩))
                    go_ret
                    exact ⟨by rfl, by repeat ((with_reducible first | exact HB.out | apply pw_below_drewN))⟩
                · rw [if_neg c42] at H
                  have c42b0 : (t231 == t233) = false := beq_eq_false_iff_ne.mpr c42
                  have c42b1 : (t231 != t233) = true := bne_iff_ne.mpr c42
                  obtain rfl := Option.some.inj H
                  go_wp2_with (first | ((with_reducible refine gate_callee (f := 14) rfl ?_); refine goesL_ (some 72) rfl rfl Try.func14 (by kernel_rfl) rfl #[.slice A0 l0.length c0, .int .i64 a1, .int .i64 a2] rfl (by (try simp only [List.map_toArray, List.map_cons, List.map_nil]); rfl) ?_; (with_reducible refine (floats_Below.calls kj13 _ _ l0 a1 a2 t230 t231 _ ?side1 ?side2 A36.out).mono ?_); (case side1 => repeat (exact (Kd.C_below HR0.out HB.out))); (case side2 => exact HC0.out); rintro e w57 ⟨rfl, hb⟩; refine ⟨_, rfl, ?_⟩; have n0_ := Aside0.mk (blk_below (g := gb223) (o := .cells #[.int .i64 t220, .int .i64 t221] 25 (0, 0)) (by (with_reducible repeat (fail)); exact BK223.out) hb); have n1_ := Aside0.mk (blk_below (g := gb227) (o := .cells #[.int .i64 t224, .int .i64 t225] 25 (0, 0)) (by (with_reducible repeat (fail)); exact BK227.out) hb); have n2_ := Aside0.mk (below_step (by repeat ((with_reducible exact HB.out))) hb); clear BK223; clear BK227; clear HB; have BK223 := n0_; have BK227 := n1_; have HB := n2_; clear n0_ n1_ n2_; (try clear hb)) | ((with_reducible refine gate_callee (f := 15) rfl ?_); refine goesL_ (some 79) rfl rfl Try.func15 (by kernel_rfl) rfl #[.slice A0 l0.length c0, .int .i64 a1, .int .i64 a2] rfl (by (try simp only [List.map_toArray, List.map_cons, List.map_nil]); rfl) ?_; (with_reducible refine (formeref20_Below.calls kj13 _ _ l0 a1 a2 t232 t233 _ ?side1 ?side2 A37.out).mono ?_); (case side1 => repeat (exact (Kd.C_below HR0.out HB.out))); (case side2 => exact HC0.out); rintro e w58 ⟨rfl, hb⟩; refine ⟨_, rfl, ?_⟩; have n0_ := Aside0.mk (blk_below (g := gb223) (o := .cells #[.int .i64 t220, .int .i64 t221] 25 (0, 0)) (by (with_reducible repeat (fail)); exact BK223.out) hb); have n1_ := Aside0.mk (blk_below (g := gb227) (o := .cells #[.int .i64 t224, .int .i64 t225] 25 (0, 0)) (by (with_reducible repeat (fail)); exact BK227.out) hb); have n2_ := Aside0.mk (below_step (by repeat ((with_reducible exact HB.out))) hb); clear BK223; clear BK227; clear HB; have BK223 := n0_; have BK227 := n1_; have HB := n2_; clear n0_ n1_ n2_; (try clear hb)) | ((with_reducible refine gate_callee (f := 16) rfl ?_); refine goesL_ (some 100) rfl rfl Try.func16 (by kernel_rfl) rfl #[.slice A0 l0.length c0, .int .i64 a1, .int .i64 a2, .int .i64 a3, .int .i64 a4, .int .i64 a5] rfl (by (try simp only [List.map_toArray, List.map_cons, List.map_nil]); rfl) ?_; (with_reducible refine (floats_Place.calls _ _ l0 a1 a2 a3 a4 a5 t234 t235 _ ?side1 ?side2 A40.out).mono ?_); (case side1 => repeat (exact (Kd.C_below HR0.out HB.out))); (case side2 => exact HC0.out); rintro e w59 ⟨v236, rfl, ho0, hb⟩; refine ⟨_, rfl, ?_⟩; have n0_ := Aside0.mk (Kd.R_lower ho0 (below_size (by repeat ((with_reducible exact HB.out))))); have n1_ := Aside0.mk (blk_below (g := gb223) (o := .cells #[.int .i64 t220, .int .i64 t221] 25 (0, 0)) (by (with_reducible repeat (fail)); exact BK223.out) hb); have n2_ := Aside0.mk (blk_below (g := gb227) (o := .cells #[.int .i64 t224, .int .i64 t225] 25 (0, 0)) (by (with_reducible repeat (fail)); exact BK227.out) hb); have n3_ := Aside0.mk (below_step (by repeat ((with_reducible exact HB.out))) hb); clear BK223; clear BK227; clear HB; have HO237 := n0_; have BK223 := n1_; have BK227 := n2_; have HB := n3_; clear n0_ n1_ n2_ n3_; (try clear hb); (try clear ho0)) | ((with_reducible refine gate_callee (f := 17) rfl ?_); refine goesL_ (some 110) rfl rfl Try.func17 (by kernel_rfl) rfl #[.slice A0 l0.length c0, .int .i64 a1, .int .i64 a2, .int .i64 a3, .int .i64 a4, .int .i64 a5] rfl (by (try simp only [List.map_toArray, List.map_cons, List.map_nil]); rfl) ?_; (with_reducible refine (formeref20_Place.calls kj13 _ _ l0 a1 a2 a3 a4 a5 t238 t239 _ ?side1 ?side2 A41.out).mono ?_); (case side1 => repeat (exact (Kd.C_below HR0.out HB.out))); (case side2 => exact HC0.out); rintro e w60 ⟨v240, rfl, ho0, hb⟩; refine ⟨_, rfl, ?_⟩; have n0_ := Aside0.mk (Kd.R_elder' (by (with_reducible repeat (fail)); exact HO237.out) (Kd.R_base ho0) hb); have n1_ := Aside0.mk (Kd.R_lower (Kd.R_new' ho0 (Kd.R_lt (by (with_reducible repeat (fail)); exact HO237.out))) (below_size (by repeat ((with_reducible exact HB.out))))); have n2_ := Aside0.mk (blk_below (g := gb223) (o := .cells #[.int .i64 t220, .int .i64 t221] 25 (0, 0)) (by (with_reducible repeat (fail)); exact BK223.out) hb); have n3_ := Aside0.mk (blk_below (g := gb227) (o := .cells #[.int .i64 t224, .int .i64 t225] 25 (0, 0)) (by (with_reducible repeat (fail)); exact BK227.out) hb); have n4_ := Aside0.mk (below_step (by repeat ((with_reducible exact HB.out))) hb); clear HO237; clear BK223; clear BK227; clear HB; have HO237 := n0_; have HO241 := n1_; have BK223 := n2_; have BK227 := n3_; have HB := n4_; clear n0_ n1_ n2_ n3_ n4_; (try clear hb); (try clear ho0)))
                  go_ret
                  exact ⟨by rfl, by repeat ((with_reducible exact HB.out))⟩
              · rw [if_neg c39] at H
                have c39b0 : (t230 == t232) = false := beq_eq_false_iff_ne.mpr c39
                have c39b1 : (t230 != t232) = true := bne_iff_ne.mpr c39
                replace H := Option.bind_eq_some_iff.mp H
                obtain ⟨⟨t243, t244⟩, A610, H⟩ := H
                replace H : ((formeref20_Place.f kj13 l0 a1 a2 a3 a4 a5).bind fun bt247 => (some false)) = some r := H
                have A61 := Aside0.mk A610
                clear A610
                replace H := Option.bind_eq_some_iff.mp H
                obtain ⟨⟨t247, t248⟩, A620, H⟩ := H
                replace H : (some false) = some r := H
                have A62 := Aside0.mk A620
                clear A620
                obtain rfl := Option.some.inj H
                go_wp2_with (first | ((with_reducible refine gate_callee (f := 14) rfl ?_); refine goesL_ (some 72) rfl rfl Try.func14 (by kernel_rfl) rfl #[.slice A0 l0.length c0, .int .i64 a1, .int .i64 a2] rfl (by (try simp only [List.map_toArray, List.map_cons, List.map_nil]); rfl) ?_; (with_reducible refine (floats_Below.calls kj13 _ _ l0 a1 a2 t230 t231 _ ?side1 ?side2 A36.out).mono ?_); (case side1 => repeat (exact (Kd.C_below HR0.out HB.out))); (case side2 => exact HC0.out); rintro e w63 ⟨rfl, hb⟩; refine ⟨_, rfl, ?_⟩; have n0_ := Aside0.mk (blk_below (g := gb223) (o := .cells #[.int .i64 t220, .int .i64 t221] 25 (0, 0)) (by (with_reducible repeat (fail)); exact BK223.out) hb); have n1_ := Aside0.mk (blk_below (g := gb227) (o := .cells #[.int .i64 t224, .int .i64 t225] 25 (0, 0)) (by (with_reducible repeat (fail)); exact BK227.out) hb); have n2_ := Aside0.mk (below_step (by repeat ((with_reducible exact HB.out))) hb); clear BK223; clear BK227; clear HB; have BK223 := n0_; have BK227 := n1_; have HB := n2_; clear n0_ n1_ n2_; (try clear hb)) | ((with_reducible refine gate_callee (f := 15) rfl ?_); refine goesL_ (some 79) rfl rfl Try.func15 (by kernel_rfl) rfl #[.slice A0 l0.length c0, .int .i64 a1, .int .i64 a2] rfl (by (try simp only [List.map_toArray, List.map_cons, List.map_nil]); rfl) ?_; (with_reducible refine (formeref20_Below.calls kj13 _ _ l0 a1 a2 t232 t233 _ ?side1 ?side2 A37.out).mono ?_); (case side1 => repeat (exact (Kd.C_below HR0.out HB.out))); (case side2 => exact HC0.out); rintro e w64 ⟨rfl, hb⟩; refine ⟨_, rfl, ?_⟩; have n0_ := Aside0.mk (blk_below (g := gb223) (o := .cells #[.int .i64 t220, .int .i64 t221] 25 (0, 0)) (by (with_reducible repeat (fail)); exact BK223.out) hb); have n1_ := Aside0.mk (blk_below (g := gb227) (o := .cells #[.int .i64 t224, .int .i64 t225] 25 (0, 0)) (by (with_reducible repeat (fail)); exact BK227.out) hb); have n2_ := Aside0.mk (below_step (by repeat ((with_reducible exact HB.out))) hb); clear BK223; clear BK227; clear HB; have BK223 := n0_; have BK227 := n1_; have HB := n2_; clear n0_ n1_ n2_; (try clear hb)) | ((with_reducible refine gate_callee (f := 16) rfl ?_); refine goesL_ (some 100) rfl rfl Try.func16 (by kernel_rfl) rfl #[.slice A0 l0.length c0, .int .i64 a1, .int .i64 a2, .int .i64 a3, .int .i64 a4, .int .i64 a5] rfl (by (try simp only [List.map_toArray, List.map_cons, List.map_nil]); rfl) ?_; (with_reducible refine (floats_Place.calls _ _ l0 a1 a2 a3 a4 a5 t243 t244 _ ?side1 ?side2 A61.out).mono ?_); (case side1 => repeat (exact (Kd.C_below HR0.out HB.out))); (case side2 => exact HC0.out); rintro e w65 ⟨v245, rfl, ho0, hb⟩; refine ⟨_, rfl, ?_⟩; have n0_ := Aside0.mk (Kd.R_lower ho0 (below_size (by repeat ((with_reducible exact HB.out))))); have n1_ := Aside0.mk (blk_below (g := gb223) (o := .cells #[.int .i64 t220, .int .i64 t221] 25 (0, 0)) (by (with_reducible repeat (fail)); exact BK223.out) hb); have n2_ := Aside0.mk (blk_below (g := gb227) (o := .cells #[.int .i64 t224, .int .i64 t225] 25 (0, 0)) (by (with_reducible repeat (fail)); exact BK227.out) hb); have n3_ := Aside0.mk (below_step (by repeat ((with_reducible exact HB.out))) hb); clear BK223; clear BK227; clear HB; have HO246 := n0_; have BK223 := n1_; have BK227 := n2_; have HB := n3_; clear n0_ n1_ n2_ n3_; (try clear hb); (try clear ho0)) | ((with_reducible refine gate_callee (f := 17) rfl ?_); refine goesL_ (some 110) rfl rfl Try.func17 (by kernel_rfl) rfl #[.slice A0 l0.length c0, .int .i64 a1, .int .i64 a2, .int .i64 a3, .int .i64 a4, .int .i64 a5] rfl (by (try simp only [List.map_toArray, List.map_cons, List.map_nil]); rfl) ?_; (with_reducible refine (formeref20_Place.calls kj13 _ _ l0 a1 a2 a3 a4 a5 t247 t248 _ ?side1 ?side2 A62.out).mono ?_); (case side1 => repeat (exact (Kd.C_below HR0.out HB.out))); (case side2 => exact HC0.out); rintro e w66 ⟨v249, rfl, ho0, hb⟩; refine ⟨_, rfl, ?_⟩; have n0_ := Aside0.mk (Kd.R_elder' (by (with_reducible repeat (fail)); exact HO246.out) (Kd.R_base ho0) hb); have n1_ := Aside0.mk (Kd.R_lower (Kd.R_new' ho0 (Kd.R_lt (by (with_reducible repeat (fail)); exact HO246.out))) (below_size (by repeat ((with_reducible exact HB.out))))); have n2_ := Aside0.mk (blk_below (g := gb223) (o := .cells #[.int .i64 t220, .int .i64 t221] 25 (0, 0)) (by (with_reducible repeat (fail)); exact BK223.out) hb); have n3_ := Aside0.mk (blk_below (g := gb227) (o := .cells #[.int .i64 t224, .int .i64 t225] 25 (0, 0)) (by (with_reducible repeat (fail)); exact BK227.out) hb); have n4_ := Aside0.mk (below_step (by repeat ((with_reducible exact HB.out))) hb); clear HO246; clear BK223; clear BK227; clear HB; have HO246 := n0_; have HO250 := n1_; have BK223 := n2_; have BK227 := n3_; have HB := n4_; clear n0_ n1_ n2_ n3_ n4_; (try clear hb); (try clear ho0)))
                go_ret
                exact ⟨by rfl, by repeat ((with_reducible exact HB.out))⟩
            · replace c38 := Bool.eq_false_iff.mpr c38
              subst c38
              have H1 : ((floats_Place.f l0 a1 a2 a3 a4 a5).bind fun bt251 => ((formeref20_Place.f kj13 l0 a1 a2 a3 a4 a5).bind fun bt255 => (some false))) = some r := by rw [if_neg (show ¬ (false = true) by decide)] at H; exact H
              clear H
              have H := H1
              clear H1
              replace H := Option.bind_eq_some_iff.mp H
              obtain ⟨⟨t251, t252⟩, A670, H⟩ := H
              replace H : ((formeref20_Place.f kj13 l0 a1 a2 a3 a4 a5).bind fun bt255 => (some false)) = some r := H
              have A67 := Aside0.mk A670
              clear A670
              replace H := Option.bind_eq_some_iff.mp H
              obtain ⟨⟨t255, t256⟩, A680, H⟩ := H
              replace H : (some false) = some r := H
              have A68 := Aside0.mk A680
              clear A680
              obtain rfl := Option.some.inj H
              go_wp2_with (first | ((with_reducible refine gate_callee (f := 14) rfl ?_); refine goesL_ (some 72) rfl rfl Try.func14 (by kernel_rfl) rfl #[.slice A0 l0.length c0, .int .i64 a1, .int .i64 a2] rfl (by (try simp only [List.map_toArray, List.map_cons, List.map_nil]); rfl) ?_; (with_reducible refine (floats_Below.calls kj13 _ _ l0 a1 a2 t230 t231 _ ?side1 ?side2 A36.out).mono ?_); (case side1 => repeat (exact (Kd.C_below HR0.out HB.out))); (case side2 => exact HC0.out); rintro e w69 ⟨rfl, hb⟩; refine ⟨_, rfl, ?_⟩; have n0_ := Aside0.mk (blk_below (g := gb223) (o := .cells #[.int .i64 t220, .int .i64 t221] 25 (0, 0)) (by (with_reducible repeat (fail)); exact BK223.out) hb); have n1_ := Aside0.mk (blk_below (g := gb227) (o := .cells #[.int .i64 t224, .int .i64 t225] 25 (0, 0)) (by (with_reducible repeat (fail)); exact BK227.out) hb); have n2_ := Aside0.mk (below_step (by repeat ((with_reducible exact HB.out))) hb); clear BK223; clear BK227; clear HB; have BK223 := n0_; have BK227 := n1_; have HB := n2_; clear n0_ n1_ n2_; (try clear hb)) | ((with_reducible refine gate_callee (f := 15) rfl ?_); refine goesL_ (some 79) rfl rfl Try.func15 (by kernel_rfl) rfl #[.slice A0 l0.length c0, .int .i64 a1, .int .i64 a2] rfl (by (try simp only [List.map_toArray, List.map_cons, List.map_nil]); rfl) ?_; (with_reducible refine (formeref20_Below.calls kj13 _ _ l0 a1 a2 t232 t233 _ ?side1 ?side2 A37.out).mono ?_); (case side1 => repeat (exact (Kd.C_below HR0.out HB.out))); (case side2 => exact HC0.out); rintro e w70 ⟨rfl, hb⟩; refine ⟨_, rfl, ?_⟩; have n0_ := Aside0.mk (blk_below (g := gb223) (o := .cells #[.int .i64 t220, .int .i64 t221] 25 (0, 0)) (by (with_reducible repeat (fail)); exact BK223.out) hb); have n1_ := Aside0.mk (blk_below (g := gb227) (o := .cells #[.int .i64 t224, .int .i64 t225] 25 (0, 0)) (by (with_reducible repeat (fail)); exact BK227.out) hb); have n2_ := Aside0.mk (below_step (by repeat ((with_reducible exact HB.out))) hb); clear BK223; clear BK227; clear HB; have BK223 := n0_; have BK227 := n1_; have HB := n2_; clear n0_ n1_ n2_; (try clear hb)) | ((with_reducible refine gate_callee (f := 16) rfl ?_); refine goesL_ (some 100) rfl rfl Try.func16 (by kernel_rfl) rfl #[.slice A0 l0.length c0, .int .i64 a1, .int .i64 a2, .int .i64 a3, .int .i64 a4, .int .i64 a5] rfl (by (try simp only [List.map_toArray, List.map_cons, List.map_nil]); rfl) ?_; (with_reducible refine (floats_Place.calls _ _ l0 a1 a2 a3 a4 a5 t251 t252 _ ?side1 ?side2 A67.out).mono ?_); (case side1 => repeat (exact (Kd.C_below HR0.out HB.out))); (case side2 => exact HC0.out); rintro e w71 ⟨v253, rfl, ho0, hb⟩; refine ⟨_, rfl, ?_⟩; have n0_ := Aside0.mk (Kd.R_lower ho0 (below_size (by repeat ((with_reducible exact HB.out))))); have n1_ := Aside0.mk (blk_below (g := gb223) (o := .cells #[.int .i64 t220, .int .i64 t221] 25 (0, 0)) (by (with_reducible repeat (fail)); exact BK223.out) hb); have n2_ := Aside0.mk (blk_below (g := gb227) (o := .cells #[.int .i64 t224, .int .i64 t225] 25 (0, 0)) (by (with_reducible repeat (fail)); exact BK227.out) hb); have n3_ := Aside0.mk (below_step (by repeat ((with_reducible exact HB.out))) hb); clear BK223; clear BK227; clear HB; have HO254 := n0_; have BK223 := n1_; have BK227 := n2_; have HB := n3_; clear n0_ n1_ n2_ n3_; (try clear hb); (try clear ho0)) | ((with_reducible refine gate_callee (f := 17) rfl ?_); refine goesL_ (some 110) rfl rfl Try.func17 (by kernel_rfl) rfl #[.slice A0 l0.length c0, .int .i64 a1, .int .i64 a2, .int .i64 a3, .int .i64 a4, .int .i64 a5] rfl (by (try simp only [List.map_toArray, List.map_cons, List.map_nil]); rfl) ?_; (with_reducible refine (formeref20_Place.calls kj13 _ _ l0 a1 a2 a3 a4 a5 t255 t256 _ ?side1 ?side2 A68.out).mono ?_); (case side1 => repeat (exact (Kd.C_below HR0.out HB.out))); (case side2 => exact HC0.out); rintro e w72 ⟨v257, rfl, ho0, hb⟩; refine ⟨_, rfl, ?_⟩; have n0_ := Aside0.mk (Kd.R_elder' (by (with_reducible repeat (fail)); exact HO254.out) (Kd.R_base ho0) hb); have n1_ := Aside0.mk (Kd.R_lower (Kd.R_new' ho0 (Kd.R_lt (by (with_reducible repeat (fail)); exact HO254.out))) (below_size (by repeat ((with_reducible exact HB.out))))); have n2_ := Aside0.mk (blk_below (g := gb223) (o := .cells #[.int .i64 t220, .int .i64 t221] 25 (0, 0)) (by (with_reducible repeat (fail)); exact BK223.out) hb); have n3_ := Aside0.mk (blk_below (g := gb227) (o := .cells #[.int .i64 t224, .int .i64 t225] 25 (0, 0)) (by (with_reducible repeat (fail)); exact BK227.out) hb); have n4_ := Aside0.mk (below_step (by repeat ((with_reducible exact HB.out))) hb); clear HO254; clear BK223; clear BK227; clear HB; have HO254 := n0_; have HO258 := n1_; have BK223 := n2_; have BK227 := n3_; have HB := n4_; clear n0_ n1_ n2_ n3_ n4_; (try clear hb); (try clear ho0)))
              go_ret
              exact ⟨by rfl, by repeat ((with_reducible exact HB.out))⟩

end Go.Proofs.Ytffmflmpiekcfab.PAll
