/- Printed by a program of this session (wip/gprint.py) over the translation. Not trusted: Lean checks it. -/
import Derived.Test.YtffmflmpiekcfabPAllx0
import Derived.Test.YtffmflmpiekcfabPAllx1
import Derived.Test.YtffmflmpiekcfabPAllx5
import Derived.Test.YtffmflmpiekcfabPAllx13
namespace Go.Proofs.Ytffmflmpiekcfab.PAll
open Go.RowKit Go.Proofs.YtffmflmpiekcfabW.PrintWords Go.Proofs.YtffmflmpiekcfabW.PrintLast Go.Proofs.YtffmflmpiekcfabW.PrintMore
attribute [local go_sem] max2_int min2_int max_two min_two max_three min_three max_four min_four   -- for this text's walks alone
set_option linter.unusedVariables false
set_option linter.unusedSimpArgs false

attribute [local go_sem high] eqA25
/-! ### formelaw20_FloatsParts: function 6 -/
mutual
def formelaw20_FloatsParts.j0 : Nat → List (S41) → Int → Int → Int → Int → Bool → Bool → Option (Bool)
  | 0, _, _, _, _, _, _, _ => none
  | k + 1, x0, x1, x2, x3, x4, x11, x49 => if x49 = true then (some x11) else ((floats_Room.f k x0 x1 x2 (wrap64 (x3))).bind fun bt318 => ((floats_Room.f k x0 x1 (wrap64 (x2 + (wrap64 (x3)))) (wrap64 (x4))).bind fun bt322 => ((floats_Room.f k x0 x1 x2 (wrap64 ((wrap64 (x3)) + (wrap64 (x4))))).bind fun bt326 => ((floats_Below.f k x0 x1 0).bind fun bt330 => ((floats_Room.f k x0 x1 (mn bt330.1 1000000000) (wrap64 (x3))).bind fun bt332 => (if bt318.2.2 = 0 then (if bt322.2.2 = 0 then (if bt326.2.2 = 0 then (if bt330.2 = 0 then (formelaw20_FloatsParts.j1 k x1 x11 bt330.1 (bt332.2.2 != 0) bt318.1 bt318.2.1 bt322.1 bt322.2.1 bt326.1 bt326.2.1 bt332.1 bt332.2.1) else (formelaw20_FloatsParts.j1 k x1 x11 bt330.1 true bt318.1 bt318.2.1 bt322.1 bt322.2.1 bt326.1 bt326.2.1 bt332.1 bt332.2.1)) else (formelaw20_FloatsParts.j1 k x1 x11 bt330.1 true bt318.1 bt318.2.1 bt322.1 bt322.2.1 bt326.1 bt326.2.1 bt332.1 bt332.2.1)) else (formelaw20_FloatsParts.j1 k x1 x11 bt330.1 true bt318.1 bt318.2.1 bt322.1 bt322.2.1 bt326.1 bt326.2.1 bt332.1 bt332.2.1)) else (formelaw20_FloatsParts.j1 k x1 x11 bt330.1 true bt318.1 bt318.2.1 bt322.1 bt322.2.1 bt326.1 bt326.2.1 bt332.1 bt332.2.1)))))))
def formelaw20_FloatsParts.j1 : Nat → Int → Bool → Int → Bool → Int → Int → Int → Int → Int → Int → Int → Int → Option (Bool)
  | 0, _, _, _, _, _, _, _, _, _, _, _, _ => none
  | k + 1, x1, x11, x18, x117, x322000, x322001, x326000, x326001, x330000, x330001, x336000, x336001 => if x117 = true then (some false) else (if x330000 = (mx x322000 x326000) then (if x330000 > x330001 then (some false) else (if (mx x322000 x326000) ≤ (mn x322001 x326001) then (if x330001 < (mx x322000 x326000) then (some false) else (if x330001 > (mn x322001 x326001) then (some false) else (if x11 = true then (if x18 > 1000000000 then (some true) else (some (x336000 == 0 && (x336001 == x1)))) else (some false)))) else (if x11 = true then (if x18 > 1000000000 then (some true) else (some (x336000 == 0 && (x336001 == x1)))) else (some false)))) else (some false))
end
def formelaw20_FloatsParts.f (k : Nat) (l0 : List (S41)) (a1 : Int) (a2 : Int) (a3 : Int) (a4 : Int) : Option (Bool) := (formelaw20_head.f k).bind fun t316 => (if (l0.length : Int) > 30 then (formelaw20_FloatsParts.j0 k l0 a1 a2 a3 a4 t316 true) else ((formeref20_Valid.f k l0 a1).bind fun t317 => (if t317 = true then (if a2 < 0 then (formelaw20_FloatsParts.j0 k l0 a1 a2 a3 a4 t316 true) else (if a2 > 999800000 then (formelaw20_FloatsParts.j0 k l0 a1 a2 a3 a4 t316 true) else (if a3 = 0 then (formelaw20_FloatsParts.j0 k l0 a1 a2 a3 a4 t316 true) else (formelaw20_FloatsParts.j0 k l0 a1 a2 a3 a4 t316 (a4 == 0))))) else (formelaw20_FloatsParts.j0 k l0 a1 a2 a3 a4 t316 true))))
theorem formelaw20_FloatsParts.mono_l : ∀ k, (∀ y0 y1 y2 y3 y4 y5 y6, LeO (formelaw20_FloatsParts.j0 k y0 y1 y2 y3 y4 y5 y6) (formelaw20_FloatsParts.j0 (k + 1) y0 y1 y2 y3 y4 y5 y6)) ∧ (∀ y0 y1 y2 y3 y4 y5 y6 y7 y8 y9 y10 y11, LeO (formelaw20_FloatsParts.j1 k y0 y1 y2 y3 y4 y5 y6 y7 y8 y9 y10 y11) (formelaw20_FloatsParts.j1 (k + 1) y0 y1 y2 y3 y4 y5 y6 y7 y8 y9 y10 y11))
  | 0 => ⟨fun _ _ _ _ _ _ _ r h => by simp [formelaw20_FloatsParts.j0] at h, fun _ _ _ _ _ _ _ _ _ _ _ _ r h => by simp [formelaw20_FloatsParts.j1] at h⟩
  | k + 1 => by
    obtain ⟨ih0, ih1⟩ := formelaw20_FloatsParts.mono_l k
    refine ⟨?_, ?_⟩
    · intro y0 y1 y2 y3 y4 y5 y6
      unfold formelaw20_FloatsParts.j0
      repeat' first
      | (with_reducible exact ih0 _ _ _ _ _ _ _)
      | (with_reducible exact ih1 _ _ _ _ _ _ _ _ _ _ _ _)
      | (with_reducible exact floats_Below.mono _ _ _ _)
      | (with_reducible exact floats_Room.mono _ _ _ _ _)
      | (with_reducible exact formelaw20_head.mono _)
      | (with_reducible exact formeref20_Valid.mono _ _ _)
      | (with_reducible exact LeO.refl _)
      | (with_reducible exact LeO.none _)
      | (with_reducible refine LeO.ite ?_ ?_)
      | (with_reducible refine LeO.bind ?_ (fun _ => ?_))
      | exact ih0 _ _ _ _ _ _ _
      | exact ih1 _ _ _ _ _ _ _ _ _ _ _ _
      | exact floats_Below.mono _ _ _ _
      | exact floats_Room.mono _ _ _ _ _
      | exact formelaw20_head.mono _
      | exact formeref20_Valid.mono _ _ _
      | exact LeO.none _
      | refine LeO.ite ?_ ?_
      | refine LeO.bind ?_ (fun _ => ?_)
    · intro y0 y1 y2 y3 y4 y5 y6 y7 y8 y9 y10 y11
      unfold formelaw20_FloatsParts.j1
      repeat' first
      | (with_reducible exact ih0 _ _ _ _ _ _ _)
      | (with_reducible exact ih1 _ _ _ _ _ _ _ _ _ _ _ _)
      | (with_reducible exact floats_Below.mono _ _ _ _)
      | (with_reducible exact floats_Room.mono _ _ _ _ _)
      | (with_reducible exact formelaw20_head.mono _)
      | (with_reducible exact formeref20_Valid.mono _ _ _)
      | (with_reducible exact LeO.refl _)
      | (with_reducible exact LeO.none _)
      | (with_reducible refine LeO.ite ?_ ?_)
      | (with_reducible refine LeO.bind ?_ (fun _ => ?_))
      | exact ih0 _ _ _ _ _ _ _
      | exact ih1 _ _ _ _ _ _ _ _ _ _ _ _
      | exact floats_Below.mono _ _ _ _
      | exact floats_Room.mono _ _ _ _ _
      | exact formelaw20_head.mono _
      | exact formeref20_Valid.mono _ _ _
      | exact LeO.none _
      | refine LeO.ite ?_ ?_
      | refine LeO.bind ?_ (fun _ => ?_)
theorem formelaw20_FloatsParts.mono : ∀ a0 a1 a2 a3 a4 k, LeO (formelaw20_FloatsParts.f k a0 a1 a2 a3 a4) (formelaw20_FloatsParts.f (k + 1) a0 a1 a2 a3 a4) := by
  intro a0 a1 a2 a3 a4 k
  obtain ⟨ih0, ih1⟩ := formelaw20_FloatsParts.mono_l k
  unfold formelaw20_FloatsParts.f
  repeat' first
      | (with_reducible exact ih0 _ _ _ _ _ _ _)
      | (with_reducible exact ih1 _ _ _ _ _ _ _ _ _ _ _ _)
      | (with_reducible exact floats_Below.mono _ _ _ _)
      | (with_reducible exact floats_Room.mono _ _ _ _ _)
      | (with_reducible exact formelaw20_head.mono _)
      | (with_reducible exact formeref20_Valid.mono _ _ _)
      | (with_reducible exact LeO.refl _)
      | (with_reducible exact LeO.none _)
      | (with_reducible refine LeO.ite ?_ ?_)
      | (with_reducible refine LeO.bind ?_ (fun _ => ?_))
      | exact ih0 _ _ _ _ _ _ _
      | exact ih1 _ _ _ _ _ _ _ _ _ _ _ _
      | exact floats_Below.mono _ _ _ _
      | exact floats_Room.mono _ _ _ _ _
      | exact formelaw20_head.mono _
      | exact formeref20_Valid.mono _ _ _
      | exact LeO.none _
      | refine LeO.ite ?_ ?_
      | refine LeO.bind ?_ (fun _ => ?_)
set_option maxHeartbeats 8000000 in
set_option maxRecDepth 100000 in
theorem formelaw20_FloatsParts.calls (k : Nat) (A0 : Option Addr) (c0 : Nat) (l0 : List (S41)) (a1 : Int) (a2 : Int) (a3 : Int) (a4 : Int) (r : Bool) (w : World) (hr0 : Kd.C k41 w A0 l0.length l0) (hc0 : l0.length ≤ c0) (h : formelaw20_FloatsParts.f k l0 a1 a2 a3 a4 = some r) :
    Calls Try.prog 6 #[.slice A0 l0.length c0, .int .i64 a1, .int .i64 a2, .int .u16 a3, .int .u16 a4] w fun e w' => e = .returned (.bool r) ∧ Below w.heap.size w w' := by
  have hu25 := Try.underlying25
  have HR0 := Aside0.mk hr0
  have HC0 := Aside0.mk hc0
  clear hr0 hc0
  have HB := Aside0.mk (Below.refl w.heap.size w)
  have H : ((formelaw20_head.f k).bind fun t316 => (if (l0.length : Int) > 30 then (formelaw20_FloatsParts.j0 k l0 a1 a2 a3 a4 t316 true) else ((formeref20_Valid.f k l0 a1).bind fun t317 => (if t317 = true then (if a2 < 0 then (formelaw20_FloatsParts.j0 k l0 a1 a2 a3 a4 t316 true) else (if a2 > 999800000 then (formelaw20_FloatsParts.j0 k l0 a1 a2 a3 a4 t316 true) else (if a3 = 0 then (formelaw20_FloatsParts.j0 k l0 a1 a2 a3 a4 t316 true) else (formelaw20_FloatsParts.j0 k l0 a1 a2 a3 a4 t316 (a4 == 0))))) else (formelaw20_FloatsParts.j0 k l0 a1 a2 a3 a4 t316 true))))) = some r := h
  clear h
  replace H := Option.bind_eq_some_iff.mp H
  obtain ⟨t316, A60, H⟩ := H
  replace H : (if (l0.length : Int) > 30 then (formelaw20_FloatsParts.j0 k l0 a1 a2 a3 a4 t316 true) else ((formeref20_Valid.f k l0 a1).bind fun t317 => (if t317 = true then (if a2 < 0 then (formelaw20_FloatsParts.j0 k l0 a1 a2 a3 a4 t316 true) else (if a2 > 999800000 then (formelaw20_FloatsParts.j0 k l0 a1 a2 a3 a4 t316 true) else (if a3 = 0 then (formelaw20_FloatsParts.j0 k l0 a1 a2 a3 a4 t316 true) else (formelaw20_FloatsParts.j0 k l0 a1 a2 a3 a4 t316 (a4 == 0))))) else (formelaw20_FloatsParts.j0 k l0 a1 a2 a3 a4 t316 true)))) = some r := H
  have A6 := Aside0.mk A60
  clear A60
  have HC7 := Aside0.mk H
  clear H
  go_enter Try.func6, Try.ntmps6
  go_upto_region 2 with ((go_at_call 9; (with_reducible refine (formelaw20_head.calls k  t316 _ A6.out).mono ?_); rintro e w8 ⟨rfl, hb⟩; have n0_ := Aside0.mk (below_step (by repeat ((with_reducible exact HB.out))) hb); clear HB; have HB := n0_; clear n0_; (try clear hb)))
  repeat (go_quiet (fail); go_upto_region 2 with (fail))
  (try simp only [Act.put, List.setIfInBounds_toArray, List.set_cons_zero, List.set_cons_succ])
  go_cut [49] (fun v49 wc => ∃ (kq : Nat) (x49_6 : Bool), v49 = .bool x49_6 ∧ Aside0 (formelaw20_FloatsParts.j0 kq l0 a1 a2 a3 a4 t316 x49_6 = some r) ∧ Aside0 (kq ≤ k) ∧ Aside0 (Below w.heap.size w wc))
  case first =>
    have H := HC7.out
    clear HC7
    by_cases c9 : (l0.length : Int) > 30
    · rw [if_pos c9] at H
      have c9b0 : decide (30 < (l0.length : Int)) = true := decide_eq_true c9
      have c9b1 : decide (30 < l0.length) = true := decide_eq_true (by omega)
      clear c9
      (skip)
      have H' := Aside0.mk H
      clear H
      go_wp2
      repeat (go_quiet (fail); try go_wp2)
      go_meet
      case rel => exact ⟨_, (true), (by rfl), H', ⟨by omega⟩, ⟨by repeat ((with_reducible exact HB.out))⟩⟩
    · rw [if_neg c9] at H
      have c9b0 : decide (30 < (l0.length : Int)) = false := decide_eq_false c9
      have c9b1 : decide (30 < l0.length) = false := decide_eq_false (by omega)
      clear c9
      (skip)
      replace H := Option.bind_eq_some_iff.mp H
      obtain ⟨t317, A100, H⟩ := H
      replace H : (if t317 = true then (if a2 < 0 then (formelaw20_FloatsParts.j0 k l0 a1 a2 a3 a4 t316 true) else (if a2 > 999800000 then (formelaw20_FloatsParts.j0 k l0 a1 a2 a3 a4 t316 true) else (if a3 = 0 then (formelaw20_FloatsParts.j0 k l0 a1 a2 a3 a4 t316 true) else (formelaw20_FloatsParts.j0 k l0 a1 a2 a3 a4 t316 (a4 == 0))))) else (formelaw20_FloatsParts.j0 k l0 a1 a2 a3 a4 t316 true)) = some r := H
      have A10 := Aside0.mk A100
      clear A100
      by_cases c11 : t317 = true
      · subst c11
        have H1 : (if a2 < 0 then (formelaw20_FloatsParts.j0 k l0 a1 a2 a3 a4 t316 true) else (if a2 > 999800000 then (formelaw20_FloatsParts.j0 k l0 a1 a2 a3 a4 t316 true) else (if a3 = 0 then (formelaw20_FloatsParts.j0 k l0 a1 a2 a3 a4 t316 true) else (formelaw20_FloatsParts.j0 k l0 a1 a2 a3 a4 t316 (a4 == 0))))) = some r := by rw [if_pos rfl] at H; exact H
        clear H
        have H := H1
        clear H1
        by_cases c12 : a2 < 0
        · rw [if_pos c12] at H
          have c12b0 : decide (a2 < 0) = true := decide_eq_true c12
          clear c12
          have H' := Aside0.mk H
          clear H
          go_wp2_with ((go_at_call 13; (with_reducible refine (formeref20_Valid.calls k _ _ l0 a1 true _ ?side1 ?side2 A10.out).mono ?_); (case side1 => repeat (exact (Kd.C_below HR0.out HB.out))); (case side2 => exact HC0.out); rintro e w' ⟨rfl, ⟨nd, rfl⟩⟩; (try fail)))
          repeat (go_quiet (fail); try go_wp2_with (fail))
          go_meet
          case rel => exact ⟨_, (true), (by rfl), H', ⟨by omega⟩, ⟨by repeat ((with_reducible first | exact HB.out | apply pw_below_drewN))⟩⟩
        · rw [if_neg c12] at H
          have c12b0 : decide (a2 < 0) = false := decide_eq_false c12
          clear c12
          by_cases c13 : a2 > 999800000
          · rw [if_pos c13] at H
            have c13b0 : decide (999800000 < a2) = true := decide_eq_true c13
            clear c13
            have H' := Aside0.mk H
            clear H
            go_wp2_with ((go_at_call 13; (with_reducible refine (formeref20_Valid.calls k _ _ l0 a1 true _ ?side1 ?side2 A10.out).mono ?_); (case side1 => repeat (exact (Kd.C_below HR0.out HB.out))); (case side2 => exact HC0.out); rintro e w' ⟨rfl, ⟨nd, rfl⟩⟩; (try fail)))
            repeat (go_quiet (fail); try go_wp2_with (fail))
            go_meet
            case rel => exact ⟨_, (true), (by rfl), H', ⟨by omega⟩, ⟨by repeat ((with_reducible first | exact HB.out | apply pw_below_drewN))⟩⟩
          · rw [if_neg c13] at H
            have c13b0 : decide (999800000 < a2) = false := decide_eq_false c13
            clear c13
            by_cases c14 : a3 = 0
            · rw [if_pos c14] at H
              have c14b0 : (a3 == 0) = true := beq_iff_eq.mpr c14
              have c14b1 : (a3 != 0) = false := bne_eq_false_iff_eq.mpr c14
              clear c14
              have H' := Aside0.mk H
              clear H
              go_wp2_with ((go_at_call 13; (with_reducible refine (formeref20_Valid.calls k _ _ l0 a1 true _ ?side1 ?side2 A10.out).mono ?_); (case side1 => repeat (exact (Kd.C_below HR0.out HB.out))); (case side2 => exact HC0.out); rintro e w' ⟨rfl, ⟨nd, rfl⟩⟩; (try fail)))
              repeat (go_quiet (fail); try go_wp2_with (fail))
              go_meet
              case rel => exact ⟨_, (true), (by rfl), H', ⟨by omega⟩, ⟨by repeat ((with_reducible first | exact HB.out | apply pw_below_drewN))⟩⟩
            · rw [if_neg c14] at H
              have c14b0 : (a3 == 0) = false := beq_eq_false_iff_ne.mpr c14
              have c14b1 : (a3 != 0) = true := bne_iff_ne.mpr c14
              have H' := Aside0.mk H
              clear H
              go_wp2_with ((go_at_call 13; (with_reducible refine (formeref20_Valid.calls k _ _ l0 a1 true _ ?side1 ?side2 A10.out).mono ?_); (case side1 => repeat (exact (Kd.C_below HR0.out HB.out))); (case side2 => exact HC0.out); rintro e w' ⟨rfl, ⟨nd, rfl⟩⟩; (try fail)))
              repeat (go_quiet (fail); try go_wp2_with (fail))
              go_meet
              case rel => exact ⟨_, ((a4 == 0)), (by rfl), H', ⟨by omega⟩, ⟨by repeat ((with_reducible first | exact HB.out | apply pw_below_drewN))⟩⟩
      · replace c11 := Bool.eq_false_iff.mpr c11
        subst c11
        have H1 : (formelaw20_FloatsParts.j0 k l0 a1 a2 a3 a4 t316 true) = some r := by rw [if_neg (show ¬ (false = true) by decide)] at H; exact H
        clear H
        have H := H1
        clear H1
        have H' := Aside0.mk H
        clear H
        go_wp2_with ((go_at_call 13; (with_reducible refine (formeref20_Valid.calls k _ _ l0 a1 false _ ?side1 ?side2 A10.out).mono ?_); (case side1 => repeat (exact (Kd.C_below HR0.out HB.out))); (case side2 => exact HC0.out); rintro e w' ⟨rfl, ⟨nd, rfl⟩⟩; (try fail)))
        repeat (go_quiet (fail); try go_wp2_with (fail))
        go_meet
        case rel => exact ⟨_, (true), (by rfl), H', ⟨by omega⟩, ⟨by repeat ((with_reducible first | exact HB.out | apply pw_below_drewN))⟩⟩
  case rest =>
    clear HC7
    obtain ⟨kq, x49_6, rfl, HA, HJ6, HB⟩ := hcut
    cases kq with
    | zero => exact absurd HA.out (by simp [formelaw20_FloatsParts.j0])
    | succ kj6 =>
      have H := HA.out
      clear HA
      simp only [formelaw20_FloatsParts.j0] at H
      by_cases c15 : x49_6 = true
      · subst c15
        have H1 : (some t316) = some r := by rw [if_pos rfl] at H; exact H
        clear H
        have H := H1
        clear H1
        obtain rfl := Option.some.inj H
        go_wp2
        repeat (go_quiet (fail); try go_wp2)
        go_ret
        exact ⟨by rfl, by repeat ((with_reducible exact HB.out))⟩
      · replace c15 := Bool.eq_false_iff.mpr c15
        subst c15
        have H1 : ((floats_Room.f kj6 l0 a1 a2 (wrap64 (a3))).bind fun bt318 => ((floats_Room.f kj6 l0 a1 (wrap64 (a2 + (wrap64 (a3)))) (wrap64 (a4))).bind fun bt322 => ((floats_Room.f kj6 l0 a1 a2 (wrap64 ((wrap64 (a3)) + (wrap64 (a4))))).bind fun bt326 => ((floats_Below.f kj6 l0 a1 0).bind fun bt330 => ((floats_Room.f kj6 l0 a1 (mn bt330.1 1000000000) (wrap64 (a3))).bind fun bt332 => (if bt318.2.2 = 0 then (if bt322.2.2 = 0 then (if bt326.2.2 = 0 then (if bt330.2 = 0 then (formelaw20_FloatsParts.j1 kj6 a1 t316 bt330.1 (bt332.2.2 != 0) bt318.1 bt318.2.1 bt322.1 bt322.2.1 bt326.1 bt326.2.1 bt332.1 bt332.2.1) else (formelaw20_FloatsParts.j1 kj6 a1 t316 bt330.1 true bt318.1 bt318.2.1 bt322.1 bt322.2.1 bt326.1 bt326.2.1 bt332.1 bt332.2.1)) else (formelaw20_FloatsParts.j1 kj6 a1 t316 bt330.1 true bt318.1 bt318.2.1 bt322.1 bt322.2.1 bt326.1 bt326.2.1 bt332.1 bt332.2.1)) else (formelaw20_FloatsParts.j1 kj6 a1 t316 bt330.1 true bt318.1 bt318.2.1 bt322.1 bt322.2.1 bt326.1 bt326.2.1 bt332.1 bt332.2.1)) else (formelaw20_FloatsParts.j1 kj6 a1 t316 bt330.1 true bt318.1 bt318.2.1 bt322.1 bt322.2.1 bt326.1 bt326.2.1 bt332.1 bt332.2.1))))))) = some r := by rw [if_neg (show ¬ (false = true) by decide)] at H; exact H
        clear H
        have H := H1
        clear H1
        replace H := Option.bind_eq_some_iff.mp H
        obtain ⟨⟨t318, t319, t320⟩, A160, H⟩ := H
        replace H : ((floats_Room.f kj6 l0 a1 (wrap64 (a2 + (wrap64 (a3)))) (wrap64 (a4))).bind fun bt322 => ((floats_Room.f kj6 l0 a1 a2 (wrap64 ((wrap64 (a3)) + (wrap64 (a4))))).bind fun bt326 => ((floats_Below.f kj6 l0 a1 0).bind fun bt330 => ((floats_Room.f kj6 l0 a1 (mn bt330.1 1000000000) (wrap64 (a3))).bind fun bt332 => (if t320 = 0 then (if bt322.2.2 = 0 then (if bt326.2.2 = 0 then (if bt330.2 = 0 then (formelaw20_FloatsParts.j1 kj6 a1 t316 bt330.1 (bt332.2.2 != 0) t318 t319 bt322.1 bt322.2.1 bt326.1 bt326.2.1 bt332.1 bt332.2.1) else (formelaw20_FloatsParts.j1 kj6 a1 t316 bt330.1 true t318 t319 bt322.1 bt322.2.1 bt326.1 bt326.2.1 bt332.1 bt332.2.1)) else (formelaw20_FloatsParts.j1 kj6 a1 t316 bt330.1 true t318 t319 bt322.1 bt322.2.1 bt326.1 bt326.2.1 bt332.1 bt332.2.1)) else (formelaw20_FloatsParts.j1 kj6 a1 t316 bt330.1 true t318 t319 bt322.1 bt322.2.1 bt326.1 bt326.2.1 bt332.1 bt332.2.1)) else (formelaw20_FloatsParts.j1 kj6 a1 t316 bt330.1 true t318 t319 bt322.1 bt322.2.1 bt326.1 bt326.2.1 bt332.1 bt332.2.1)))))) = some r := H
        have A16 := Aside0.mk A160
        clear A160
        replace H := Option.bind_eq_some_iff.mp H
        obtain ⟨⟨t322, t323, t324⟩, A170, H⟩ := H
        replace H : ((floats_Room.f kj6 l0 a1 a2 (wrap64 ((wrap64 (a3)) + (wrap64 (a4))))).bind fun bt326 => ((floats_Below.f kj6 l0 a1 0).bind fun bt330 => ((floats_Room.f kj6 l0 a1 (mn bt330.1 1000000000) (wrap64 (a3))).bind fun bt332 => (if t320 = 0 then (if t324 = 0 then (if bt326.2.2 = 0 then (if bt330.2 = 0 then (formelaw20_FloatsParts.j1 kj6 a1 t316 bt330.1 (bt332.2.2 != 0) t318 t319 t322 t323 bt326.1 bt326.2.1 bt332.1 bt332.2.1) else (formelaw20_FloatsParts.j1 kj6 a1 t316 bt330.1 true t318 t319 t322 t323 bt326.1 bt326.2.1 bt332.1 bt332.2.1)) else (formelaw20_FloatsParts.j1 kj6 a1 t316 bt330.1 true t318 t319 t322 t323 bt326.1 bt326.2.1 bt332.1 bt332.2.1)) else (formelaw20_FloatsParts.j1 kj6 a1 t316 bt330.1 true t318 t319 t322 t323 bt326.1 bt326.2.1 bt332.1 bt332.2.1)) else (formelaw20_FloatsParts.j1 kj6 a1 t316 bt330.1 true t318 t319 t322 t323 bt326.1 bt326.2.1 bt332.1 bt332.2.1))))) = some r := H
        have A17 := Aside0.mk A170
        clear A170
        replace H := Option.bind_eq_some_iff.mp H
        obtain ⟨⟨t326, t327, t328⟩, A180, H⟩ := H
        replace H : ((floats_Below.f kj6 l0 a1 0).bind fun bt330 => ((floats_Room.f kj6 l0 a1 (mn bt330.1 1000000000) (wrap64 (a3))).bind fun bt332 => (if t320 = 0 then (if t324 = 0 then (if t328 = 0 then (if bt330.2 = 0 then (formelaw20_FloatsParts.j1 kj6 a1 t316 bt330.1 (bt332.2.2 != 0) t318 t319 t322 t323 t326 t327 bt332.1 bt332.2.1) else (formelaw20_FloatsParts.j1 kj6 a1 t316 bt330.1 true t318 t319 t322 t323 t326 t327 bt332.1 bt332.2.1)) else (formelaw20_FloatsParts.j1 kj6 a1 t316 bt330.1 true t318 t319 t322 t323 t326 t327 bt332.1 bt332.2.1)) else (formelaw20_FloatsParts.j1 kj6 a1 t316 bt330.1 true t318 t319 t322 t323 t326 t327 bt332.1 bt332.2.1)) else (formelaw20_FloatsParts.j1 kj6 a1 t316 bt330.1 true t318 t319 t322 t323 t326 t327 bt332.1 bt332.2.1)))) = some r := H
        have A18 := Aside0.mk A180
        clear A180
        replace H := Option.bind_eq_some_iff.mp H
        obtain ⟨⟨t330, t331⟩, A190, H⟩ := H
        replace H : ((floats_Room.f kj6 l0 a1 (mn t330 1000000000) (wrap64 (a3))).bind fun bt332 => (if t320 = 0 then (if t324 = 0 then (if t328 = 0 then (if t331 = 0 then (formelaw20_FloatsParts.j1 kj6 a1 t316 t330 (bt332.2.2 != 0) t318 t319 t322 t323 t326 t327 bt332.1 bt332.2.1) else (formelaw20_FloatsParts.j1 kj6 a1 t316 t330 true t318 t319 t322 t323 t326 t327 bt332.1 bt332.2.1)) else (formelaw20_FloatsParts.j1 kj6 a1 t316 t330 true t318 t319 t322 t323 t326 t327 bt332.1 bt332.2.1)) else (formelaw20_FloatsParts.j1 kj6 a1 t316 t330 true t318 t319 t322 t323 t326 t327 bt332.1 bt332.2.1)) else (formelaw20_FloatsParts.j1 kj6 a1 t316 t330 true t318 t319 t322 t323 t326 t327 bt332.1 bt332.2.1))) = some r := H
        have A19 := Aside0.mk A190
        clear A190
        obtain ⟨ji20, hji20⟩ : ∃ j_ : Int, (mn t330 1000000000) = j_ := ⟨_, rfl⟩
        replace H : ((floats_Room.f kj6 l0 a1 (ji20) (wrap64 (a3))).bind fun bt332 => (if t320 = 0 then (if t324 = 0 then (if t328 = 0 then (if t331 = 0 then (formelaw20_FloatsParts.j1 kj6 a1 t316 t330 (bt332.2.2 != 0) t318 t319 t322 t323 t326 t327 bt332.1 bt332.2.1) else (formelaw20_FloatsParts.j1 kj6 a1 t316 t330 true t318 t319 t322 t323 t326 t327 bt332.1 bt332.2.1)) else (formelaw20_FloatsParts.j1 kj6 a1 t316 t330 true t318 t319 t322 t323 t326 t327 bt332.1 bt332.2.1)) else (formelaw20_FloatsParts.j1 kj6 a1 t316 t330 true t318 t319 t322 t323 t326 t327 bt332.1 bt332.2.1)) else (formelaw20_FloatsParts.j1 kj6 a1 t316 t330 true t318 t319 t322 t323 t326 t327 bt332.1 bt332.2.1))) = some r := by (rw [hji20] at H; exact H)
        (try rw [hji20] at A16)
        (try rw [hji20] at A17)
        (try rw [hji20] at A18)
        (try rw [hji20] at A19)
        (try (have hji20h : ji20 ≤ 1000000000 := by (rw [← hji20]; unfold mn; (repeat' split) <;> omega)))
        (try (have hji20g : ji20 ≤ 64 := by omega))
        have hji20_ : (if 1000000000 < t330 then 1000000000 else t330) = ji20 := hji20
        replace H := Option.bind_eq_some_iff.mp H
        obtain ⟨⟨t332, t333, t334⟩, A210, H⟩ := H
        replace H : (if t320 = 0 then (if t324 = 0 then (if t328 = 0 then (if t331 = 0 then (formelaw20_FloatsParts.j1 kj6 a1 t316 t330 (t334 != 0) t318 t319 t322 t323 t326 t327 t332 t333) else (formelaw20_FloatsParts.j1 kj6 a1 t316 t330 true t318 t319 t322 t323 t326 t327 t332 t333)) else (formelaw20_FloatsParts.j1 kj6 a1 t316 t330 true t318 t319 t322 t323 t326 t327 t332 t333)) else (formelaw20_FloatsParts.j1 kj6 a1 t316 t330 true t318 t319 t322 t323 t326 t327 t332 t333)) else (formelaw20_FloatsParts.j1 kj6 a1 t316 t330 true t318 t319 t322 t323 t326 t327 t332 t333)) = some r := H
        have A21 := Aside0.mk A210
        clear A210
        have HC22 := Aside0.mk H
        clear H
        go_upto_region 9 with (first | (go_at_call 10; (with_reducible refine (floats_Room.calls kj6 _ _ l0 a1 a2 (wrap64 (a3)) t318 t319 t320 _ ?side1 ?side2 A16.out).mono ?_); (case side1 => repeat (exact (Kd.C_below HR0.out HB.out))); (case side2 => exact HC0.out); rintro e w23 ⟨rfl, hb⟩; have n0_ := Aside0.mk (below_step (by repeat ((with_reducible exact HB.out))) hb); clear HB; have HB := n0_; clear n0_; (try clear hb)) | ((with_reducible refine gate_dst (N := 12) rfl ?_); refine box_event ?hg (N := 12) ?hd (cs := #[.int .i64 0, .int .i64 0]) (t := 25) ?hr ?_; (case hd => rfl); (case hg => rfl); (case hr => (go_simp; done)); intro gb321 hg w24 hbox hb; have n0_ := Aside0.mk (below_step (by repeat ((with_reducible exact HB.out))) hb); have n1_ := Aside0.mk (hbox); have n2_ := Aside0.mk ((by rw [hg]; exact (below_size (by repeat ((with_reducible exact HB.out)))) : w.heap.size ≤ gb321)); have n3_ := Aside0.mk ((by rw [hg]; exact (below_size (by repeat ((with_reducible exact HB.out)))) : w.heap.size ≤ gb321)); clear HB; have HB := n0_; have BK321 := n1_; have GW321 := n2_; have GE321 := n3_; clear n0_ n1_ n2_ n3_; clear hb hbox hg; have hcz25_0 : w24.cell? ⟨gb321, 0, none⟩ = some (.int .i64 0) := (blk_cell BK321.out 0).trans rfl; have hcz25_1 : w24.cell? ⟨gb321, 1, none⟩ = some (.int .i64 0) := (blk_cell BK321.out 1).trans rfl; have hfz25_0 := blk_frozen BK321.out 0; have hfz25_1 := blk_frozen BK321.out 1) | (go_at_call 10; (with_reducible refine (floats_Room.calls kj6 _ _ l0 a1 (wrap64 (a2 + (wrap64 (a3)))) (wrap64 (a4)) t322 t323 t324 _ ?side1 ?side2 A17.out).mono ?_); (case side1 => exact Kd.C_below HR0.out (by repeat ((with_reducible first | exact HB.out | refine below_set ?_ GE321.out)))); (case side2 => exact HC0.out); rintro e w26 ⟨rfl, hb⟩; have n0_ := Aside0.mk (blk_below (g := gb321) (o := .cells #[.int .i64 t318, .int .i64 t319] 25 (0, 0)) (by (with_reducible repeat (fail)); refine blk_put (cs := #[.int .i64 t318, .int .i64 0]) ?_ 1 _ rfl; (with_reducible repeat (fail)); refine blk_put (cs := #[.int .i64 0, .int .i64 0]) ?_ 0 _ rfl; (with_reducible repeat (fail)); exact BK321.out) hb); have n1_ := Aside0.mk (below_step (by repeat ((with_reducible first | exact HB.out | refine below_set ?_ GE321.out))) hb); clear BK321; clear HB; have BK321 := n0_; have HB := n1_; clear n0_ n1_; (try clear hb)) | ((with_reducible refine gate_dst (N := 14) rfl ?_); refine box_event ?hg (N := 14) ?hd (cs := #[.int .i64 0, .int .i64 0]) (t := 25) ?hr ?_; (case hd => rfl); (case hg => rfl); (case hr => (go_simp; done)); intro gb325 hg w27 hbox hb; have n0_ := Aside0.mk (blk_below (g := gb321) (o := .cells #[.int .i64 t318, .int .i64 t319] 25 (0, 0)) (by (with_reducible repeat (fail)); exact BK321.out) hb); have n1_ := Aside0.mk (below_step (by repeat ((with_reducible exact HB.out))) hb); have n2_ := Aside0.mk (hbox); have n3_ := Aside0.mk ((by rw [hg]; exact (below_size (by repeat ((with_reducible exact HB.out)))) : w.heap.size ≤ gb325)); have n4_ := Aside0.mk ((by rw [hg]; exact (below_size (by repeat ((with_reducible exact HB.out)))) : w.heap.size ≤ gb325)); have n5_ := Aside0.mk ((by rw [hg]; exact Nat.ne_of_lt (blk_lt (g := gb321) (o := .cells #[.int .i64 t318, .int .i64 t319] 25 (0, 0)) (by (with_reducible repeat (fail)); exact BK321.out)) : gb321 ≠ gb325)); have n6_ := Aside0.mk ((by rw [hg]; exact Nat.ne_of_gt (blk_lt (g := gb321) (o := .cells #[.int .i64 t318, .int .i64 t319] 25 (0, 0)) (by (with_reducible repeat (fail)); exact BK321.out)) : gb325 ≠ gb321)); clear BK321; clear HB; have BK321 := n0_; have HB := n1_; have BK325 := n2_; have GW325 := n3_; have GE325 := n4_; have NB321_325 := n5_; have NB325_321 := n6_; clear n0_ n1_ n2_ n3_ n4_ n5_ n6_; clear hb hbox hg; have hnb28 := NB325_321.out; have hnc28 := NB321_325.out; have hcz29_0 : w27.cell? ⟨gb325, 0, none⟩ = some (.int .i64 0) := (blk_cell BK325.out 0).trans rfl; have hcz29_1 : w27.cell? ⟨gb325, 1, none⟩ = some (.int .i64 0) := (blk_cell BK325.out 1).trans rfl; have hfz29_0 := blk_frozen BK325.out 0; have hfz29_1 := blk_frozen BK325.out 1) | (go_at_call 10; (with_reducible refine (floats_Room.calls kj6 _ _ l0 a1 a2 (wrap64 ((wrap64 (a3)) + (wrap64 (a4)))) t326 t327 t328 _ ?side1 ?side2 A18.out).mono ?_); (case side1 => exact Kd.C_below HR0.out (by repeat ((with_reducible first | exact HB.out | refine below_set ?_ GE325.out)))); (case side2 => exact HC0.out); rintro e w30 ⟨rfl, hb⟩; have n0_ := Aside0.mk (blk_below (g := gb321) (o := .cells #[.int .i64 t318, .int .i64 t319] 25 (0, 0)) (by (with_reducible repeat (fail)); refine blk_far ?_ NB321_325.out _; (with_reducible repeat (fail)); refine blk_far ?_ NB321_325.out _; (with_reducible repeat (fail)); exact BK321.out) hb); have n1_ := Aside0.mk (blk_below (g := gb325) (o := .cells #[.int .i64 t322, .int .i64 t323] 25 (0, 0)) (by (with_reducible repeat (fail)); refine blk_put (cs := #[.int .i64 t322, .int .i64 0]) ?_ 1 _ rfl; (with_reducible repeat (fail)); refine blk_put (cs := #[.int .i64 0, .int .i64 0]) ?_ 0 _ rfl; (with_reducible repeat (fail)); exact BK325.out) hb); have n2_ := Aside0.mk (below_step (by repeat ((with_reducible first | exact HB.out | refine below_set ?_ GE325.out))) hb); clear BK321; clear BK325; clear HB; have BK321 := n0_; have BK325 := n1_; have HB := n2_; clear n0_ n1_ n2_; (try clear hb)) | ((with_reducible refine gate_dst (N := 16) rfl ?_); refine box_event ?hg (N := 16) ?hd (cs := #[.int .i64 0, .int .i64 0]) (t := 25) ?hr ?_; (case hd => rfl); (case hg => rfl); (case hr => (go_simp; done)); intro gb329 hg w31 hbox hb; have n0_ := Aside0.mk (blk_below (g := gb321) (o := .cells #[.int .i64 t318, .int .i64 t319] 25 (0, 0)) (by (with_reducible repeat (fail)); exact BK321.out) hb); have n1_ := Aside0.mk (blk_below (g := gb325) (o := .cells #[.int .i64 t322, .int .i64 t323] 25 (0, 0)) (by (with_reducible repeat (fail)); exact BK325.out) hb); have n2_ := Aside0.mk (below_step (by repeat ((with_reducible exact HB.out))) hb); have n3_ := Aside0.mk (hbox); have n4_ := Aside0.mk ((by rw [hg]; exact (below_size (by repeat ((with_reducible exact HB.out)))) : w.heap.size ≤ gb329)); have n5_ := Aside0.mk ((by rw [hg]; exact (below_size (by repeat ((with_reducible exact HB.out)))) : w.heap.size ≤ gb329)); have n6_ := Aside0.mk ((by rw [hg]; exact Nat.ne_of_lt (blk_lt (g := gb321) (o := .cells #[.int .i64 t318, .int .i64 t319] 25 (0, 0)) (by (with_reducible repeat (fail)); exact BK321.out)) : gb321 ≠ gb329)); have n7_ := Aside0.mk ((by rw [hg]; exact Nat.ne_of_gt (blk_lt (g := gb321) (o := .cells #[.int .i64 t318, .int .i64 t319] 25 (0, 0)) (by (with_reducible repeat (fail)); exact BK321.out)) : gb329 ≠ gb321)); have n8_ := Aside0.mk ((by rw [hg]; exact Nat.ne_of_lt (blk_lt (g := gb325) (o := .cells #[.int .i64 t322, .int .i64 t323] 25 (0, 0)) (by (with_reducible repeat (fail)); exact BK325.out)) : gb325 ≠ gb329)); have n9_ := Aside0.mk ((by rw [hg]; exact Nat.ne_of_gt (blk_lt (g := gb325) (o := .cells #[.int .i64 t322, .int .i64 t323] 25 (0, 0)) (by (with_reducible repeat (fail)); exact BK325.out)) : gb329 ≠ gb325)); clear BK321; clear BK325; clear HB; have BK321 := n0_; have BK325 := n1_; have HB := n2_; have BK329 := n3_; have GW329 := n4_; have GE329 := n5_; have NB321_329 := n6_; have NB329_321 := n7_; have NB325_329 := n8_; have NB329_325 := n9_; clear n0_ n1_ n2_ n3_ n4_ n5_ n6_ n7_ n8_ n9_; clear hb hbox hg; have hnb32 := NB329_321.out; have hnc32 := NB321_329.out; have hnb33 := NB329_325.out; have hnc33 := NB325_329.out; have hcz34_0 : w31.cell? ⟨gb329, 0, none⟩ = some (.int .i64 0) := (blk_cell BK329.out 0).trans rfl; have hcz34_1 : w31.cell? ⟨gb329, 1, none⟩ = some (.int .i64 0) := (blk_cell BK329.out 1).trans rfl; have hfz34_0 := blk_frozen BK329.out 0; have hfz34_1 := blk_frozen BK329.out 1) | (go_at_call 14; (with_reducible refine (floats_Below.calls kj6 _ _ l0 a1 0 t330 t331 _ ?side1 ?side2 A19.out).mono ?_); (case side1 => exact Kd.C_below HR0.out (by repeat ((with_reducible first | exact HB.out | refine below_set ?_ GE329.out)))); (case side2 => exact HC0.out); rintro e w35 ⟨rfl, hb⟩; have n0_ := Aside0.mk (blk_below (g := gb321) (o := .cells #[.int .i64 t318, .int .i64 t319] 25 (0, 0)) (by (with_reducible repeat (fail)); refine blk_far ?_ NB321_329.out _; (with_reducible repeat (fail)); refine blk_far ?_ NB321_329.out _; (with_reducible repeat (fail)); exact BK321.out) hb); have n1_ := Aside0.mk (blk_below (g := gb325) (o := .cells #[.int .i64 t322, .int .i64 t323] 25 (0, 0)) (by (with_reducible repeat (fail)); refine blk_far ?_ NB325_329.out _; (with_reducible repeat (fail)); refine blk_far ?_ NB325_329.out _; (with_reducible repeat (fail)); exact BK325.out) hb); have n2_ := Aside0.mk (blk_below (g := gb329) (o := .cells #[.int .i64 t326, .int .i64 t327] 25 (0, 0)) (by (with_reducible repeat (fail)); refine blk_put (cs := #[.int .i64 t326, .int .i64 0]) ?_ 1 _ rfl; (with_reducible repeat (fail)); refine blk_put (cs := #[.int .i64 0, .int .i64 0]) ?_ 0 _ rfl; (with_reducible repeat (fail)); exact BK329.out) hb); have n3_ := Aside0.mk (below_step (by repeat ((with_reducible first | exact HB.out | refine below_set ?_ GE329.out))) hb); clear BK321; clear BK325; clear BK329; clear HB; have BK321 := n0_; have BK325 := n1_; have BK329 := n2_; have HB := n3_; clear n0_ n1_ n2_ n3_; (try clear hb)) | (go_at_call 10; (with_reducible refine (floats_Room.calls kj6 _ _ l0 a1 ji20 (wrap64 (a3)) t332 t333 t334 _ ?side1 ?side2 A21.out).mono ?_); (case side1 => repeat (exact (Kd.C_below HR0.out HB.out))); (case side2 => exact HC0.out); rintro e w36 ⟨rfl, hb⟩; have n0_ := Aside0.mk (blk_below (g := gb321) (o := .cells #[.int .i64 t318, .int .i64 t319] 25 (0, 0)) (by (with_reducible repeat (fail)); exact BK321.out) hb); have n1_ := Aside0.mk (blk_below (g := gb325) (o := .cells #[.int .i64 t322, .int .i64 t323] 25 (0, 0)) (by (with_reducible repeat (fail)); exact BK325.out) hb); have n2_ := Aside0.mk (blk_below (g := gb329) (o := .cells #[.int .i64 t326, .int .i64 t327] 25 (0, 0)) (by (with_reducible repeat (fail)); exact BK329.out) hb); have n3_ := Aside0.mk (below_step (by repeat ((with_reducible exact HB.out))) hb); clear BK321; clear BK325; clear BK329; clear HB; have BK321 := n0_; have BK325 := n1_; have BK329 := n2_; have HB := n3_; clear n0_ n1_ n2_ n3_; (try clear hb)) | ((with_reducible refine gate_dst (N := 20) rfl ?_); refine box_event ?hg (N := 20) ?hd (cs := #[.int .i64 0, .int .i64 0]) (t := 25) ?hr ?_; (case hd => rfl); (case hg => rfl); (case hr => (go_simp; done)); intro gb335 hg w37 hbox hb; have n0_ := Aside0.mk (blk_below (g := gb321) (o := .cells #[.int .i64 t318, .int .i64 t319] 25 (0, 0)) (by (with_reducible repeat (fail)); exact BK321.out) hb); have n1_ := Aside0.mk (blk_below (g := gb325) (o := .cells #[.int .i64 t322, .int .i64 t323] 25 (0, 0)) (by (with_reducible repeat (fail)); exact BK325.out) hb); have n2_ := Aside0.mk (blk_below (g := gb329) (o := .cells #[.int .i64 t326, .int .i64 t327] 25 (0, 0)) (by (with_reducible repeat (fail)); exact BK329.out) hb); have n3_ := Aside0.mk (below_step (by repeat ((with_reducible exact HB.out))) hb); have n4_ := Aside0.mk (hbox); have n5_ := Aside0.mk ((by rw [hg]; exact (below_size (by repeat ((with_reducible exact HB.out)))) : w.heap.size ≤ gb335)); have n6_ := Aside0.mk ((by rw [hg]; exact (below_size (by repeat ((with_reducible exact HB.out)))) : w.heap.size ≤ gb335)); have n7_ := Aside0.mk ((by rw [hg]; exact Nat.ne_of_lt (blk_lt (g := gb321) (o := .cells #[.int .i64 t318, .int .i64 t319] 25 (0, 0)) (by (with_reducible repeat (fail)); exact BK321.out)) : gb321 ≠ gb335)); have n8_ := Aside0.mk ((by rw [hg]; exact Nat.ne_of_gt (blk_lt (g := gb321) (o := .cells #[.int .i64 t318, .int .i64 t319] 25 (0, 0)) (by (with_reducible repeat (fail)); exact BK321.out)) : gb335 ≠ gb321)); have n9_ := Aside0.mk ((by rw [hg]; exact Nat.ne_of_lt (blk_lt (g := gb325) (o := .cells #[.int .i64 t322, .int .i64 t323] 25 (0, 0)) (by (with_reducible repeat (fail)); exact BK325.out)) : gb325 ≠ gb335)); have n10_ := Aside0.mk ((by rw [hg]; exact Nat.ne_of_gt (blk_lt (g := gb325) (o := .cells #[.int .i64 t322, .int .i64 t323] 25 (0, 0)) (by (with_reducible repeat (fail)); exact BK325.out)) : gb335 ≠ gb325)); have n11_ := Aside0.mk ((by rw [hg]; exact Nat.ne_of_lt (blk_lt (g := gb329) (o := .cells #[.int .i64 t326, .int .i64 t327] 25 (0, 0)) (by (with_reducible repeat (fail)); exact BK329.out)) : gb329 ≠ gb335)); have n12_ := Aside0.mk ((by rw [hg]; exact Nat.ne_of_gt (blk_lt (g := gb329) (o := .cells #[.int .i64 t326, .int .i64 t327] 25 (0, 0)) (by (with_reducible repeat (fail)); exact BK329.out)) : gb335 ≠ gb329)); clear BK321; clear BK325; clear BK329; clear HB; have BK321 := n0_; have BK325 := n1_; have BK329 := n2_; have HB := n3_; have BK335 := n4_; have GW335 := n5_; have GE335 := n6_; have NB321_335 := n7_; have NB335_321 := n8_; have NB325_335 := n9_; have NB335_325 := n10_; have NB329_335 := n11_; have NB335_329 := n12_; clear n0_ n1_ n2_ n3_ n4_ n5_ n6_ n7_ n8_ n9_ n10_ n11_ n12_; clear hb hbox hg; have hnb38 := NB335_321.out; have hnc38 := NB321_335.out; have hnb39 := NB335_325.out; have hnc39 := NB325_335.out; have hnb40 := NB335_329.out; have hnc40 := NB329_335.out; have hcz41_0 : w37.cell? ⟨gb335, 0, none⟩ = some (.int .i64 0) := (blk_cell BK335.out 0).trans rfl; have hcz41_1 : w37.cell? ⟨gb335, 1, none⟩ = some (.int .i64 0) := (blk_cell BK335.out 1).trans rfl; have hfz41_0 := blk_frozen BK335.out 0; have hfz41_1 := blk_frozen BK335.out 1))
        repeat (go_quiet (fail); go_upto_region 9 with (fail))
        (try simp only [Act.put, List.setIfInBounds_toArray, List.set_cons_zero, List.set_cons_succ])
        go_cut [117] (fun v117 wc => ∃ (kq : Nat) (x117_21 : Bool), v117 = .bool x117_21 ∧ Aside0 (formelaw20_FloatsParts.j1 kq a1 t316 t330 x117_21 t318 t319 t322 t323 t326 t327 t332 t333 = some r) ∧ Aside0 (kq ≤ kj6) ∧ Aside0 (wc.heap[gb321]? = some (.cells #[.int .i64 t318, .int .i64 t319] 25 (0, 0))) ∧ Aside0 (wc.heap[gb325]? = some (.cells #[.int .i64 t322, .int .i64 t323] 25 (0, 0))) ∧ Aside0 (wc.heap[gb329]? = some (.cells #[.int .i64 t326, .int .i64 t327] 25 (0, 0))) ∧ Aside0 (wc.heap[gb335]? = some (.cells #[.int .i64 t332, .int .i64 t333] 25 (0, 0))) ∧ Aside0 (Below w.heap.size w wc))
        case first =>
          have H := HC22.out
          clear HC22
          by_cases c42 : t320 = 0
          · rw [if_pos c42] at H
            have c42b0 : (t320 == 0) = true := beq_iff_eq.mpr c42
            have c42b1 : (t320 != 0) = false := bne_eq_false_iff_eq.mpr c42
            clear c42
            (skip)
            by_cases c43 : t324 = 0
            · rw [if_pos c43] at H
              have c43b0 : (t324 == 0) = true := beq_iff_eq.mpr c43
              have c43b1 : (t324 != 0) = false := bne_eq_false_iff_eq.mpr c43
              clear c43
              by_cases c44 : t328 = 0
              · rw [if_pos c44] at H
                have c44b0 : (t328 == 0) = true := beq_iff_eq.mpr c44
                have c44b1 : (t328 != 0) = false := bne_eq_false_iff_eq.mpr c44
                clear c44
                by_cases c45 : t331 = 0
                · rw [if_pos c45] at H
                  have c45b0 : (t331 == 0) = true := beq_iff_eq.mpr c45
                  have c45b1 : (t331 != 0) = false := bne_eq_false_iff_eq.mpr c45
                  clear c45
                  have H' := Aside0.mk H
                  clear H
                  go_wp2
                  repeat (go_quiet (fail); try go_wp2)
                  go_meet
                  case rel => exact ⟨_, ((t334 != 0)), (by rfl), H', ⟨by have := HJ6.out; omega⟩, ⟨by (with_reducible repeat (fail)); refine blk_far ?_ NB321_335.out _; (with_reducible repeat (fail)); refine blk_far ?_ NB321_335.out _; (with_reducible repeat (fail)); exact BK321.out⟩, ⟨by (with_reducible repeat (fail)); refine blk_far ?_ NB325_335.out _; (with_reducible repeat (fail)); refine blk_far ?_ NB325_335.out _; (with_reducible repeat (fail)); exact BK325.out⟩, ⟨by (with_reducible repeat (fail)); refine blk_far ?_ NB329_335.out _; (with_reducible repeat (fail)); refine blk_far ?_ NB329_335.out _; (with_reducible repeat (fail)); exact BK329.out⟩, ⟨by (with_reducible repeat (fail)); refine blk_put (cs := #[.int .i64 t332, .int .i64 0]) ?_ 1 _ rfl; (with_reducible repeat (fail)); refine blk_put (cs := #[.int .i64 0, .int .i64 0]) ?_ 0 _ rfl; (with_reducible repeat (fail)); exact BK335.out⟩, ⟨by repeat ((with_reducible first | exact HB.out | refine below_set ?_ GE335.out))⟩⟩
                · rw [if_neg c45] at H
                  have c45b0 : (t331 == 0) = false := beq_eq_false_iff_ne.mpr c45
                  have c45b1 : (t331 != 0) = true := bne_iff_ne.mpr c45
                  have H' := Aside0.mk H
                  clear H
                  go_wp2
                  repeat (go_quiet (fail); try go_wp2)
                  go_meet
                  case rel => exact ⟨_, (true), (by rfl), H', ⟨by have := HJ6.out; omega⟩, ⟨by (with_reducible repeat (fail)); refine blk_far ?_ NB321_335.out _; (with_reducible repeat (fail)); refine blk_far ?_ NB321_335.out _; (with_reducible repeat (fail)); exact BK321.out⟩, ⟨by (with_reducible repeat (fail)); refine blk_far ?_ NB325_335.out _; (with_reducible repeat (fail)); refine blk_far ?_ NB325_335.out _; (with_reducible repeat (fail)); exact BK325.out⟩, ⟨by (with_reducible repeat (fail)); refine blk_far ?_ NB329_335.out _; (with_reducible repeat (fail)); refine blk_far ?_ NB329_335.out _; (with_reducible repeat (fail)); exact BK329.out⟩, ⟨by (with_reducible repeat (fail)); refine blk_put (cs := #[.int .i64 t332, .int .i64 0]) ?_ 1 _ rfl; (with_reducible repeat (fail)); refine blk_put (cs := #[.int .i64 0, .int .i64 0]) ?_ 0 _ rfl; (with_reducible repeat (fail)); exact BK335.out⟩, ⟨by repeat ((with_reducible first | exact HB.out | refine below_set ?_ GE335.out))⟩⟩
              · rw [if_neg c44] at H
                have c44b0 : (t328 == 0) = false := beq_eq_false_iff_ne.mpr c44
                have c44b1 : (t328 != 0) = true := bne_iff_ne.mpr c44
                have H' := Aside0.mk H
                clear H
                go_wp2
                repeat (go_quiet (fail); try go_wp2)
                go_meet
                case rel => exact ⟨_, (true), (by rfl), H', ⟨by have := HJ6.out; omega⟩, ⟨by (with_reducible repeat (fail)); refine blk_far ?_ NB321_335.out _; (with_reducible repeat (fail)); refine blk_far ?_ NB321_335.out _; (with_reducible repeat (fail)); exact BK321.out⟩, ⟨by (with_reducible repeat (fail)); refine blk_far ?_ NB325_335.out _; (with_reducible repeat (fail)); refine blk_far ?_ NB325_335.out _; (with_reducible repeat (fail)); exact BK325.out⟩, ⟨by (with_reducible repeat (fail)); refine blk_far ?_ NB329_335.out _; (with_reducible repeat (fail)); refine blk_far ?_ NB329_335.out _; (with_reducible repeat (fail)); exact BK329.out⟩, ⟨by (with_reducible repeat (fail)); refine blk_put (cs := #[.int .i64 t332, .int .i64 0]) ?_ 1 _ rfl; (with_reducible repeat (fail)); refine blk_put (cs := #[.int .i64 0, .int .i64 0]) ?_ 0 _ rfl; (with_reducible repeat (fail)); exact BK335.out⟩, ⟨by repeat ((with_reducible first | exact HB.out | refine below_set ?_ GE335.out))⟩⟩
            · rw [if_neg c43] at H
              have c43b0 : (t324 == 0) = false := beq_eq_false_iff_ne.mpr c43
              have c43b1 : (t324 != 0) = true := bne_iff_ne.mpr c43
              have H' := Aside0.mk H
              clear H
              go_wp2
              repeat (go_quiet (fail); try go_wp2)
              go_meet
              case rel => exact ⟨_, (true), (by rfl), H', ⟨by have := HJ6.out; omega⟩, ⟨by (with_reducible repeat (fail)); refine blk_far ?_ NB321_335.out _; (with_reducible repeat (fail)); refine blk_far ?_ NB321_335.out _; (with_reducible repeat (fail)); exact BK321.out⟩, ⟨by (with_reducible repeat (fail)); refine blk_far ?_ NB325_335.out _; (with_reducible repeat (fail)); refine blk_far ?_ NB325_335.out _; (with_reducible repeat (fail)); exact BK325.out⟩, ⟨by (with_reducible repeat (fail)); refine blk_far ?_ NB329_335.out _; (with_reducible repeat (fail)); refine blk_far ?_ NB329_335.out _; (with_reducible repeat (fail)); exact BK329.out⟩, ⟨by (with_reducible repeat (fail)); refine blk_put (cs := #[.int .i64 t332, .int .i64 0]) ?_ 1 _ rfl; (with_reducible repeat (fail)); refine blk_put (cs := #[.int .i64 0, .int .i64 0]) ?_ 0 _ rfl; (with_reducible repeat (fail)); exact BK335.out⟩, ⟨by repeat ((with_reducible first | exact HB.out | refine below_set ?_ GE335.out))⟩⟩
          · rw [if_neg c42] at H
            have c42b0 : (t320 == 0) = false := beq_eq_false_iff_ne.mpr c42
            have c42b1 : (t320 != 0) = true := bne_iff_ne.mpr c42
            (skip)
            have H' := Aside0.mk H
            clear H
            go_wp2
            repeat (go_quiet (fail); try go_wp2)
            go_meet
            case rel => exact ⟨_, (true), (by rfl), H', ⟨by have := HJ6.out; omega⟩, ⟨by (with_reducible repeat (fail)); refine blk_far ?_ NB321_335.out _; (with_reducible repeat (fail)); refine blk_far ?_ NB321_335.out _; (with_reducible repeat (fail)); exact BK321.out⟩, ⟨by (with_reducible repeat (fail)); refine blk_far ?_ NB325_335.out _; (with_reducible repeat (fail)); refine blk_far ?_ NB325_335.out _; (with_reducible repeat (fail)); exact BK325.out⟩, ⟨by (with_reducible repeat (fail)); refine blk_far ?_ NB329_335.out _; (with_reducible repeat (fail)); refine blk_far ?_ NB329_335.out _; (with_reducible repeat (fail)); exact BK329.out⟩, ⟨by (with_reducible repeat (fail)); refine blk_put (cs := #[.int .i64 t332, .int .i64 0]) ?_ 1 _ rfl; (with_reducible repeat (fail)); refine blk_put (cs := #[.int .i64 0, .int .i64 0]) ?_ 0 _ rfl; (with_reducible repeat (fail)); exact BK335.out⟩, ⟨by repeat ((with_reducible first | exact HB.out | refine below_set ?_ GE335.out))⟩⟩
        case rest =>
          clear HC22
          try clear hcz25_0
          try clear hcz25_1
          try clear hcz29_0
          try clear hcz29_1
          try clear hcz34_0
          try clear hcz34_1
          try clear hcz41_0
          try clear hcz41_1
          try clear hfz25_0
          try clear hfz25_1
          try clear hfz29_0
          try clear hfz29_1
          try clear hfz34_0
          try clear hfz34_1
          try clear hfz41_0
          try clear hfz41_1
          obtain ⟨kq, x117_21, rfl, HA, HJ21, BK321, BK325, BK329, BK335, HB⟩ := hcut
          cases kq with
          | zero => exact absurd HA.out (by simp [formelaw20_FloatsParts.j1])
          | succ kj21 =>
            have H := HA.out
            clear HA
            simp only [formelaw20_FloatsParts.j1] at H
            by_cases c46 : x117_21 = true
            · subst c46
              have H1 : (some false) = some r := by rw [if_pos rfl] at H; exact H
              clear H
              have H := H1
              clear H1
              obtain rfl := Option.some.inj H
              go_wp2
              repeat (go_quiet (fail); try go_wp2)
              go_ret
              exact ⟨by rfl, by repeat ((with_reducible exact HB.out))⟩
            · replace c46 := Bool.eq_false_iff.mpr c46
              subst c46
              have H1 : (if t326 = (mx t318 t322) then (if t326 > t327 then (some false) else (if (mx t318 t322) ≤ (mn t319 t323) then (if t327 < (mx t318 t322) then (some false) else (if t327 > (mn t319 t323) then (some false) else (if t316 = true then (if t330 > 1000000000 then (some true) else (some (t332 == 0 && (t333 == a1)))) else (some false)))) else (if t316 = true then (if t330 > 1000000000 then (some true) else (some (t332 == 0 && (t333 == a1)))) else (some false)))) else (some false)) = some r := by rw [if_neg (show ¬ (false = true) by decide)] at H; exact H
              clear H
              have H := H1
              clear H1
              obtain ⟨ji47, hji47⟩ : ∃ j_ : Int, (mx t318 t322) = j_ := ⟨_, rfl⟩
              replace H : (if t326 = (ji47) then (if t326 > t327 then (some false) else (if (ji47) ≤ (mn t319 t323) then (if t327 < (ji47) then (some false) else (if t327 > (mn t319 t323) then (some false) else (if t316 = true then (if t330 > 1000000000 then (some true) else (some (t332 == 0 && (t333 == a1)))) else (some false)))) else (if t316 = true then (if t330 > 1000000000 then (some true) else (some (t332 == 0 && (t333 == a1)))) else (some false)))) else (some false)) = some r := by (rw [hji47] at H; exact H)
              have hji47_ : (if t318 < t322 then t322 else t318) = ji47 := hji47
              obtain ⟨ji48, hji48⟩ : ∃ j_ : Int, (mn t319 t323) = j_ := ⟨_, rfl⟩
              replace H : (if t326 = (ji47) then (if t326 > t327 then (some false) else (if (ji47) ≤ (ji48) then (if t327 < (ji47) then (some false) else (if t327 > (ji48) then (some false) else (if t316 = true then (if t330 > 1000000000 then (some true) else (some (t332 == 0 && (t333 == a1)))) else (some false)))) else (if t316 = true then (if t330 > 1000000000 then (some true) else (some (t332 == 0 && (t333 == a1)))) else (some false)))) else (some false)) = some r := by (rw [hji48] at H; exact H)
              have hji48_ : (if t323 < t319 then t323 else t319) = ji48 := hji48
              by_cases c49 : t326 = (ji47)
              · rw [if_pos c49] at H
                have c49b0 : (t326 == (ji47)) = true := beq_iff_eq.mpr c49
                have c49b1 : (t326 != (ji47)) = false := bne_eq_false_iff_eq.mpr c49
                clear c49
                by_cases c50 : t326 > t327
                · rw [if_pos c50] at H
                  have c50b0 : decide (t327 < t326) = true := decide_eq_true c50
                  clear c50
                  obtain rfl := Option.some.inj H
                  have hnb51 := NB321_325.out
                  have hnc51 := NB325_321.out
                  have hnb52 := NB321_329.out
                  have hnc52 := NB329_321.out
                  have hnb53 := NB321_335.out
                  have hnc53 := NB335_321.out
                  have hcz54_0 : wc.cell? ⟨gb321, 0, none⟩ = some (.int .i64 t318) := (blk_cell BK321.out 0).trans rfl
                  have hcz54_1 : wc.cell? ⟨gb321, 1, none⟩ = some (.int .i64 t319) := (blk_cell BK321.out 1).trans rfl
                  have hfz54_0 := blk_frozen BK321.out 0
                  have hfz54_1 := blk_frozen BK321.out 1
                  have hnb55 := NB325_329.out
                  have hnc55 := NB329_325.out
                  have hnb56 := NB325_335.out
                  have hnc56 := NB335_325.out
                  have hcz57_0 : wc.cell? ⟨gb325, 0, none⟩ = some (.int .i64 t322) := (blk_cell BK325.out 0).trans rfl
                  have hcz57_1 : wc.cell? ⟨gb325, 1, none⟩ = some (.int .i64 t323) := (blk_cell BK325.out 1).trans rfl
                  have hfz57_0 := blk_frozen BK325.out 0
                  have hfz57_1 := blk_frozen BK325.out 1
                  have hnb58 := NB329_335.out
                  have hnc58 := NB335_329.out
                  have hcz59_0 : wc.cell? ⟨gb329, 0, none⟩ = some (.int .i64 t326) := (blk_cell BK329.out 0).trans rfl
                  have hcz59_1 : wc.cell? ⟨gb329, 1, none⟩ = some (.int .i64 t327) := (blk_cell BK329.out 1).trans rfl
                  have hfz59_0 := blk_frozen BK329.out 0
                  have hfz59_1 := blk_frozen BK329.out 1
                  go_wp2
                  repeat (go_quiet (fail); try go_wp2)
                  go_ret
                  exact ⟨by rfl, by repeat ((with_reducible first | exact HB.out | apply pw_below_drewN))⟩
                · rw [if_neg c50] at H
                  have c50b0 : decide (t327 < t326) = false := decide_eq_false c50
                  clear c50
                  by_cases c60 : (ji47) ≤ (ji48)
                  · rw [if_pos c60] at H
                    have c60b0 : decide ((ji47) ≤ (ji48)) = true := decide_eq_true c60
                    clear c60
                    by_cases c61 : t327 < (ji47)
                    · rw [if_pos c61] at H
                      have c61b0 : decide (t327 < (ji47)) = true := decide_eq_true c61
                      clear c61
                      obtain rfl := Option.some.inj H
                      have hnb62 := NB321_325.out
                      have hnc62 := NB325_321.out
                      have hnb63 := NB321_329.out
                      have hnc63 := NB329_321.out
                      have hnb64 := NB321_335.out
                      have hnc64 := NB335_321.out
                      have hcz65_0 : wc.cell? ⟨gb321, 0, none⟩ = some (.int .i64 t318) := (blk_cell BK321.out 0).trans rfl
                      have hcz65_1 : wc.cell? ⟨gb321, 1, none⟩ = some (.int .i64 t319) := (blk_cell BK321.out 1).trans rfl
                      have hfz65_0 := blk_frozen BK321.out 0
                      have hfz65_1 := blk_frozen BK321.out 1
                      have hnb66 := NB325_329.out
                      have hnc66 := NB329_325.out
                      have hnb67 := NB325_335.out
                      have hnc67 := NB335_325.out
                      have hcz68_0 : wc.cell? ⟨gb325, 0, none⟩ = some (.int .i64 t322) := (blk_cell BK325.out 0).trans rfl
                      have hcz68_1 : wc.cell? ⟨gb325, 1, none⟩ = some (.int .i64 t323) := (blk_cell BK325.out 1).trans rfl
                      have hfz68_0 := blk_frozen BK325.out 0
                      have hfz68_1 := blk_frozen BK325.out 1
                      have hnb69 := NB329_335.out
                      have hnc69 := NB335_329.out
                      have hcz70_0 : wc.cell? ⟨gb329, 0, none⟩ = some (.int .i64 t326) := (blk_cell BK329.out 0).trans rfl
                      have hcz70_1 : wc.cell? ⟨gb329, 1, none⟩ = some (.int .i64 t327) := (blk_cell BK329.out 1).trans rfl
                      have hfz70_0 := blk_frozen BK329.out 0
                      have hfz70_1 := blk_frozen BK329.out 1
                      go_wp2
                      repeat (go_quiet (fail); try go_wp2)
                      go_ret
                      exact ⟨by rfl, by repeat ((with_reducible first | exact HB.out | apply pw_below_drewN))⟩
                    · rw [if_neg c61] at H
                      have c61b0 : decide (t327 < (ji47)) = false := decide_eq_false c61
                      clear c61
                      by_cases c71 : t327 > (ji48)
                      · rw [if_pos c71] at H
                        have c71b0 : decide ((ji48) < t327) = true := decide_eq_true c71
                        clear c71
                        obtain rfl := Option.some.inj H
                        have hnb72 := NB321_325.out
                        have hnc72 := NB325_321.out
                        have hnb73 := NB321_329.out
                        have hnc73 := NB329_321.out
                        have hnb74 := NB321_335.out
                        have hnc74 := NB335_321.out
                        have hcz75_0 : wc.cell? ⟨gb321, 0, none⟩ = some (.int .i64 t318) := (blk_cell BK321.out 0).trans rfl
                        have hcz75_1 : wc.cell? ⟨gb321, 1, none⟩ = some (.int .i64 t319) := (blk_cell BK321.out 1).trans rfl
                        have hfz75_0 := blk_frozen BK321.out 0
                        have hfz75_1 := blk_frozen BK321.out 1
                        have hnb76 := NB325_329.out
                        have hnc76 := NB329_325.out
                        have hnb77 := NB325_335.out
                        have hnc77 := NB335_325.out
                        have hcz78_0 : wc.cell? ⟨gb325, 0, none⟩ = some (.int .i64 t322) := (blk_cell BK325.out 0).trans rfl
                        have hcz78_1 : wc.cell? ⟨gb325, 1, none⟩ = some (.int .i64 t323) := (blk_cell BK325.out 1).trans rfl
                        have hfz78_0 := blk_frozen BK325.out 0
                        have hfz78_1 := blk_frozen BK325.out 1
                        have hnb79 := NB329_335.out
                        have hnc79 := NB335_329.out
                        have hcz80_0 : wc.cell? ⟨gb329, 0, none⟩ = some (.int .i64 t326) := (blk_cell BK329.out 0).trans rfl
                        have hcz80_1 : wc.cell? ⟨gb329, 1, none⟩ = some (.int .i64 t327) := (blk_cell BK329.out 1).trans rfl
                        have hfz80_0 := blk_frozen BK329.out 0
                        have hfz80_1 := blk_frozen BK329.out 1
                        go_wp2
                        repeat (go_quiet (fail); try go_wp2)
                        go_ret
                        exact ⟨by rfl, by repeat ((with_reducible first | exact HB.out | apply pw_below_drewN))⟩
                      · rw [if_neg c71] at H
                        have c71b0 : decide ((ji48) < t327) = false := decide_eq_false c71
                        clear c71
                        by_cases c81 : t316 = true
                        · subst c81
                          have H1 : (if t330 > 1000000000 then (some true) else (some (t332 == 0 && (t333 == a1)))) = some r := by rw [if_pos rfl] at H; exact H
                          clear H
                          have H := H1
                          clear H1
                          by_cases c82 : t330 > 1000000000
                          · rw [if_pos c82] at H
                            have c82b0 : decide (1000000000 < t330) = true := decide_eq_true c82
                            clear c82
                            obtain rfl := Option.some.inj H
                            have hnb83 := NB321_325.out
                            have hnc83 := NB325_321.out
                            have hnb84 := NB321_329.out
                            have hnc84 := NB329_321.out
                            have hnb85 := NB321_335.out
                            have hnc85 := NB335_321.out
                            have hcz86_0 : wc.cell? ⟨gb321, 0, none⟩ = some (.int .i64 t318) := (blk_cell BK321.out 0).trans rfl
                            have hcz86_1 : wc.cell? ⟨gb321, 1, none⟩ = some (.int .i64 t319) := (blk_cell BK321.out 1).trans rfl
                            have hfz86_0 := blk_frozen BK321.out 0
                            have hfz86_1 := blk_frozen BK321.out 1
                            have hnb87 := NB325_329.out
                            have hnc87 := NB329_325.out
                            have hnb88 := NB325_335.out
                            have hnc88 := NB335_325.out
                            have hcz89_0 : wc.cell? ⟨gb325, 0, none⟩ = some (.int .i64 t322) := (blk_cell BK325.out 0).trans rfl
                            have hcz89_1 : wc.cell? ⟨gb325, 1, none⟩ = some (.int .i64 t323) := (blk_cell BK325.out 1).trans rfl
                            have hfz89_0 := blk_frozen BK325.out 0
                            have hfz89_1 := blk_frozen BK325.out 1
                            have hnb90 := NB329_335.out
                            have hnc90 := NB335_329.out
                            have hcz91_0 : wc.cell? ⟨gb329, 0, none⟩ = some (.int .i64 t326) := (blk_cell BK329.out 0).trans rfl
                            have hcz91_1 : wc.cell? ⟨gb329, 1, none⟩ = some (.int .i64 t327) := (blk_cell BK329.out 1).trans rfl
                            have hfz91_0 := blk_frozen BK329.out 0
                            have hfz91_1 := blk_frozen BK329.out 1
                            go_wp2
                            repeat (go_quiet (fail); try go_wp2)
                            go_ret
                            exact ⟨by rfl, by repeat ((with_reducible first | exact HB.out | apply pw_below_drewN))⟩
                          · rw [if_neg c82] at H
                            have c82b0 : decide (1000000000 < t330) = false := decide_eq_false c82
                            clear c82
                            obtain rfl := Option.some.inj H
                            have hnb92 := NB321_325.out
                            have hnc92 := NB325_321.out
                            have hnb93 := NB321_329.out
                            have hnc93 := NB329_321.out
                            have hnb94 := NB321_335.out
                            have hnc94 := NB335_321.out
                            have hcz95_0 : wc.cell? ⟨gb321, 0, none⟩ = some (.int .i64 t318) := (blk_cell BK321.out 0).trans rfl
                            have hcz95_1 : wc.cell? ⟨gb321, 1, none⟩ = some (.int .i64 t319) := (blk_cell BK321.out 1).trans rfl
                            have hfz95_0 := blk_frozen BK321.out 0
                            have hfz95_1 := blk_frozen BK321.out 1
                            have hnb96 := NB325_329.out
                            have hnc96 := NB329_325.out
                            have hnb97 := NB325_335.out
                            have hnc97 := NB335_325.out
                            have hcz98_0 : wc.cell? ⟨gb325, 0, none⟩ = some (.int .i64 t322) := (blk_cell BK325.out 0).trans rfl
                            have hcz98_1 : wc.cell? ⟨gb325, 1, none⟩ = some (.int .i64 t323) := (blk_cell BK325.out 1).trans rfl
                            have hfz98_0 := blk_frozen BK325.out 0
                            have hfz98_1 := blk_frozen BK325.out 1
                            have hnb99 := NB329_335.out
                            have hnc99 := NB335_329.out
                            have hcz100_0 : wc.cell? ⟨gb329, 0, none⟩ = some (.int .i64 t326) := (blk_cell BK329.out 0).trans rfl
                            have hcz100_1 : wc.cell? ⟨gb329, 1, none⟩ = some (.int .i64 t327) := (blk_cell BK329.out 1).trans rfl
                            have hfz100_0 := blk_frozen BK329.out 0
                            have hfz100_1 := blk_frozen BK329.out 1
                            have hcz101_0 : wc.cell? ⟨gb335, 0, none⟩ = some (.int .i64 t332) := (blk_cell BK335.out 0).trans rfl
                            have hcz101_1 : wc.cell? ⟨gb335, 1, none⟩ = some (.int .i64 t333) := (blk_cell BK335.out 1).trans rfl
                            have hfz101_0 := blk_frozen BK335.out 0
                            have hfz101_1 := blk_frozen BK335.out 1
                            go_wp2
                            repeat (go_quiet (fail); try go_wp2)
                            go_ret
                            exact ⟨by rfl, by repeat ((with_reducible first | exact HB.out | apply pw_below_drewN))⟩
                        · replace c81 := Bool.eq_false_iff.mpr c81
                          subst c81
                          have H1 : (some false) = some r := by rw [if_neg (show ¬ (false = true) by decide)] at H; exact H
                          clear H
                          have H := H1
                          clear H1
                          obtain rfl := Option.some.inj H
                          have hnb102 := NB321_325.out
                          have hnc102 := NB325_321.out
                          have hnb103 := NB321_329.out
                          have hnc103 := NB329_321.out
                          have hnb104 := NB321_335.out
                          have hnc104 := NB335_321.out
                          have hcz105_0 : wc.cell? ⟨gb321, 0, none⟩ = some (.int .i64 t318) := (blk_cell BK321.out 0).trans rfl
                          have hcz105_1 : wc.cell? ⟨gb321, 1, none⟩ = some (.int .i64 t319) := (blk_cell BK321.out 1).trans rfl
                          have hfz105_0 := blk_frozen BK321.out 0
                          have hfz105_1 := blk_frozen BK321.out 1
                          have hnb106 := NB325_329.out
                          have hnc106 := NB329_325.out
                          have hnb107 := NB325_335.out
                          have hnc107 := NB335_325.out
                          have hcz108_0 : wc.cell? ⟨gb325, 0, none⟩ = some (.int .i64 t322) := (blk_cell BK325.out 0).trans rfl
                          have hcz108_1 : wc.cell? ⟨gb325, 1, none⟩ = some (.int .i64 t323) := (blk_cell BK325.out 1).trans rfl
                          have hfz108_0 := blk_frozen BK325.out 0
                          have hfz108_1 := blk_frozen BK325.out 1
                          have hnb109 := NB329_335.out
                          have hnc109 := NB335_329.out
                          have hcz110_0 : wc.cell? ⟨gb329, 0, none⟩ = some (.int .i64 t326) := (blk_cell BK329.out 0).trans rfl
                          have hcz110_1 : wc.cell? ⟨gb329, 1, none⟩ = some (.int .i64 t327) := (blk_cell BK329.out 1).trans rfl
                          have hfz110_0 := blk_frozen BK329.out 0
                          have hfz110_1 := blk_frozen BK329.out 1
                          go_wp2
                          repeat (go_quiet (fail); try go_wp2)
                          go_ret
                          exact ⟨by rfl, by repeat ((with_reducible first | exact HB.out | apply pw_below_drewN))⟩
                  · rw [if_neg c60] at H
                    have c60b0 : decide ((ji47) ≤ (ji48)) = false := decide_eq_false c60
                    clear c60
                    by_cases c111 : t316 = true
                    · subst c111
                      have H1 : (if t330 > 1000000000 then (some true) else (some (t332 == 0 && (t333 == a1)))) = some r := by rw [if_pos rfl] at H; exact H
                      clear H
                      have H := H1
                      clear H1
                      by_cases c112 : t330 > 1000000000
                      · rw [if_pos c112] at H
                        have c112b0 : decide (1000000000 < t330) = true := decide_eq_true c112
                        clear c112
                        obtain rfl := Option.some.inj H
                        have hnb113 := NB321_325.out
                        have hnc113 := NB325_321.out
                        have hnb114 := NB321_329.out
                        have hnc114 := NB329_321.out
                        have hnb115 := NB321_335.out
                        have hnc115 := NB335_321.out
                        have hcz116_0 : wc.cell? ⟨gb321, 0, none⟩ = some (.int .i64 t318) := (blk_cell BK321.out 0).trans rfl
                        have hcz116_1 : wc.cell? ⟨gb321, 1, none⟩ = some (.int .i64 t319) := (blk_cell BK321.out 1).trans rfl
                        have hfz116_0 := blk_frozen BK321.out 0
                        have hfz116_1 := blk_frozen BK321.out 1
                        have hnb117 := NB325_329.out
                        have hnc117 := NB329_325.out
                        have hnb118 := NB325_335.out
                        have hnc118 := NB335_325.out
                        have hcz119_0 : wc.cell? ⟨gb325, 0, none⟩ = some (.int .i64 t322) := (blk_cell BK325.out 0).trans rfl
                        have hcz119_1 : wc.cell? ⟨gb325, 1, none⟩ = some (.int .i64 t323) := (blk_cell BK325.out 1).trans rfl
                        have hfz119_0 := blk_frozen BK325.out 0
                        have hfz119_1 := blk_frozen BK325.out 1
                        have hnb120 := NB329_335.out
                        have hnc120 := NB335_329.out
                        have hcz121_0 : wc.cell? ⟨gb329, 0, none⟩ = some (.int .i64 t326) := (blk_cell BK329.out 0).trans rfl
                        have hcz121_1 : wc.cell? ⟨gb329, 1, none⟩ = some (.int .i64 t327) := (blk_cell BK329.out 1).trans rfl
                        have hfz121_0 := blk_frozen BK329.out 0
                        have hfz121_1 := blk_frozen BK329.out 1
                        go_wp2
                        repeat (go_quiet (fail); try go_wp2)
                        go_ret
                        exact ⟨by rfl, by repeat ((with_reducible first | exact HB.out | apply pw_below_drewN))⟩
                      · rw [if_neg c112] at H
                        have c112b0 : decide (1000000000 < t330) = false := decide_eq_false c112
                        clear c112
                        obtain rfl := Option.some.inj H
                        have hnb122 := NB321_325.out
                        have hnc122 := NB325_321.out
                        have hnb123 := NB321_329.out
                        have hnc123 := NB329_321.out
                        have hnb124 := NB321_335.out
                        have hnc124 := NB335_321.out
                        have hcz125_0 : wc.cell? ⟨gb321, 0, none⟩ = some (.int .i64 t318) := (blk_cell BK321.out 0).trans rfl
                        have hcz125_1 : wc.cell? ⟨gb321, 1, none⟩ = some (.int .i64 t319) := (blk_cell BK321.out 1).trans rfl
                        have hfz125_0 := blk_frozen BK321.out 0
                        have hfz125_1 := blk_frozen BK321.out 1
                        have hnb126 := NB325_329.out
                        have hnc126 := NB329_325.out
                        have hnb127 := NB325_335.out
                        have hnc127 := NB335_325.out
                        have hcz128_0 : wc.cell? ⟨gb325, 0, none⟩ = some (.int .i64 t322) := (blk_cell BK325.out 0).trans rfl
                        have hcz128_1 : wc.cell? ⟨gb325, 1, none⟩ = some (.int .i64 t323) := (blk_cell BK325.out 1).trans rfl
                        have hfz128_0 := blk_frozen BK325.out 0
                        have hfz128_1 := blk_frozen BK325.out 1
                        have hnb129 := NB329_335.out
                        have hnc129 := NB335_329.out
                        have hcz130_0 : wc.cell? ⟨gb329, 0, none⟩ = some (.int .i64 t326) := (blk_cell BK329.out 0).trans rfl
                        have hcz130_1 : wc.cell? ⟨gb329, 1, none⟩ = some (.int .i64 t327) := (blk_cell BK329.out 1).trans rfl
                        have hfz130_0 := blk_frozen BK329.out 0
                        have hfz130_1 := blk_frozen BK329.out 1
                        have hcz131_0 : wc.cell? ⟨gb335, 0, none⟩ = some (.int .i64 t332) := (blk_cell BK335.out 0).trans rfl
                        have hcz131_1 : wc.cell? ⟨gb335, 1, none⟩ = some (.int .i64 t333) := (blk_cell BK335.out 1).trans rfl
                        have hfz131_0 := blk_frozen BK335.out 0
                        have hfz131_1 := blk_frozen BK335.out 1
                        go_wp2
                        repeat (go_quiet (fail); try go_wp2)
                        go_ret
                        exact ⟨by rfl, by repeat ((with_reducible first | exact HB.out | apply pw_below_drewN))⟩
                    · replace c111 := Bool.eq_false_iff.mpr c111
                      subst c111
                      have H1 : (some false) = some r := by rw [if_neg (show ¬ (false = true) by decide)] at H; exact H
                      clear H
                      have H := H1
                      clear H1
                      obtain rfl := Option.some.inj H
                      have hnb132 := NB321_325.out
                      have hnc132 := NB325_321.out
                      have hnb133 := NB321_329.out
                      have hnc133 := NB329_321.out
                      have hnb134 := NB321_335.out
                      have hnc134 := NB335_321.out
                      have hcz135_0 : wc.cell? ⟨gb321, 0, none⟩ = some (.int .i64 t318) := (blk_cell BK321.out 0).trans rfl
                      have hcz135_1 : wc.cell? ⟨gb321, 1, none⟩ = some (.int .i64 t319) := (blk_cell BK321.out 1).trans rfl
                      have hfz135_0 := blk_frozen BK321.out 0
                      have hfz135_1 := blk_frozen BK321.out 1
                      have hnb136 := NB325_329.out
                      have hnc136 := NB329_325.out
                      have hnb137 := NB325_335.out
                      have hnc137 := NB335_325.out
                      have hcz138_0 : wc.cell? ⟨gb325, 0, none⟩ = some (.int .i64 t322) := (blk_cell BK325.out 0).trans rfl
                      have hcz138_1 : wc.cell? ⟨gb325, 1, none⟩ = some (.int .i64 t323) := (blk_cell BK325.out 1).trans rfl
                      have hfz138_0 := blk_frozen BK325.out 0
                      have hfz138_1 := blk_frozen BK325.out 1
                      have hnb139 := NB329_335.out
                      have hnc139 := NB335_329.out
                      have hcz140_0 : wc.cell? ⟨gb329, 0, none⟩ = some (.int .i64 t326) := (blk_cell BK329.out 0).trans rfl
                      have hcz140_1 : wc.cell? ⟨gb329, 1, none⟩ = some (.int .i64 t327) := (blk_cell BK329.out 1).trans rfl
                      have hfz140_0 := blk_frozen BK329.out 0
                      have hfz140_1 := blk_frozen BK329.out 1
                      go_wp2
                      repeat (go_quiet (fail); try go_wp2)
                      go_ret
                      exact ⟨by rfl, by repeat ((with_reducible first | exact HB.out | apply pw_below_drewN))⟩
              · rw [if_neg c49] at H
                have c49b0 : (t326 == (ji47)) = false := beq_eq_false_iff_ne.mpr c49
                have c49b1 : (t326 != (ji47)) = true := bne_iff_ne.mpr c49
                obtain rfl := Option.some.inj H
                have hnb141 := NB321_325.out
                have hnc141 := NB325_321.out
                have hnb142 := NB321_329.out
                have hnc142 := NB329_321.out
                have hnb143 := NB321_335.out
                have hnc143 := NB335_321.out
                have hcz144_0 : wc.cell? ⟨gb321, 0, none⟩ = some (.int .i64 t318) := (blk_cell BK321.out 0).trans rfl
                have hcz144_1 : wc.cell? ⟨gb321, 1, none⟩ = some (.int .i64 t319) := (blk_cell BK321.out 1).trans rfl
                have hfz144_0 := blk_frozen BK321.out 0
                have hfz144_1 := blk_frozen BK321.out 1
                have hnb145 := NB325_329.out
                have hnc145 := NB329_325.out
                have hnb146 := NB325_335.out
                have hnc146 := NB335_325.out
                have hcz147_0 : wc.cell? ⟨gb325, 0, none⟩ = some (.int .i64 t322) := (blk_cell BK325.out 0).trans rfl
                have hcz147_1 : wc.cell? ⟨gb325, 1, none⟩ = some (.int .i64 t323) := (blk_cell BK325.out 1).trans rfl
                have hfz147_0 := blk_frozen BK325.out 0
                have hfz147_1 := blk_frozen BK325.out 1
                have hnb148 := NB329_335.out
                have hnc148 := NB335_329.out
                have hcz149_0 : wc.cell? ⟨gb329, 0, none⟩ = some (.int .i64 t326) := (blk_cell BK329.out 0).trans rfl
                have hcz149_1 : wc.cell? ⟨gb329, 1, none⟩ = some (.int .i64 t327) := (blk_cell BK329.out 1).trans rfl
                have hfz149_0 := blk_frozen BK329.out 0
                have hfz149_1 := blk_frozen BK329.out 1
                go_wp2
                repeat (go_quiet (fail); try go_wp2)
                go_ret
                exact ⟨by rfl, by repeat ((with_reducible first | exact HB.out | apply pw_below_drewN))⟩

end Go.Proofs.Ytffmflmpiekcfab.PAll
