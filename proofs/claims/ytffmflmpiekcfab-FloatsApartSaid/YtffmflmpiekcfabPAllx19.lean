/- Printed by a program of this session (wip/gprint.py) over the translation. Not trusted: Lean checks it. -/
import Derived.Test.YtffmflmpiekcfabPAllx0
import Derived.Test.YtffmflmpiekcfabPAllx4
import Derived.Test.YtffmflmpiekcfabPAllx13
import Derived.Test.YtffmflmpiekcfabPAllx18
namespace Go.Proofs.Ytffmflmpiekcfab.PAll
open Go.RowKit Go.Proofs.YtffmflmpiekcfabW.PrintWords Go.Proofs.YtffmflmpiekcfabW.PrintLast Go.Proofs.YtffmflmpiekcfabW.PrintMore
attribute [local go_sem] max2_int min2_int max_two min_two max_three min_three max_four min_four   -- for this text's walks alone
set_option linter.unusedVariables false
set_option linter.unusedSimpArgs false

/-! ### formelaw20_FloatsApart: function 4 -/
mutual
def formelaw20_FloatsApart.j0 : Nat → List (S43) → Bool → Int → List (S41) → Bool → Option (Bool)
  | 0, _, _, _, _, _ => none
  | k + 1, x0, x5, x6, x7, x35 => if x35 = true then (some false) else (formelaw20_FloatsApart.l0 k x0 x5 x6 x7 0)
def formelaw20_FloatsApart.l0 : Nat → List (S43) → Bool → Int → List (S41) → Int → Option (Bool)
  | 0, _, _, _, _, _ => none
  | k + 1, x0, x5, x6, x7, x9 => if x9 < (x7.length : Int) then (if 0 ≤ x9 then (if ((rd_T41 x7 x9).f1) < 0 then (formelaw20_FloatsApart.j2 k x0 x5 x6 x7 x9 true ((rd_T41 x7 x9).f0) ((rd_T41 x7 x9).f1) ((rd_T41 x7 x9).f2) ((rd_T41 x7 x9).f3) ((rd_T41 x7 x9).f4)) else (if (wrap64 (((rd_T41 x7 x9).f1) + ((rd_T41 x7 x9).f3))) > x6 then (formelaw20_FloatsApart.j2 k x0 x5 x6 x7 x9 true ((rd_T41 x7 x9).f0) ((rd_T41 x7 x9).f1) ((rd_T41 x7 x9).f2) ((rd_T41 x7 x9).f3) ((rd_T41 x7 x9).f4)) else (if x9 < (x0.length : Int) then (if ((rd_T41 x7 x9).f2) < (wrap64 ((rd_T43 x0 x9).f1)) then (formelaw20_FloatsApart.j2 k x0 x5 x6 x7 x9 true ((rd_T41 x7 x9).f0) ((rd_T41 x7 x9).f1) ((rd_T41 x7 x9).f2) ((rd_T41 x7 x9).f3) ((rd_T41 x7 x9).f4)) else (if x9 > 0 then (if 0 ≤ (wrap64 (x9 - 1)) then (if (wrap64 (x9 - 1)) < (x7.length : Int) then (formelaw20_FloatsApart.j2 k x0 x5 x6 x7 x9 (decide (((rd_T41 x7 x9).f2) < ((rd_T41 x7 (wrap64 (x9 - 1))).f2))) ((rd_T41 x7 x9).f0) ((rd_T41 x7 x9).f1) ((rd_T41 x7 x9).f2) ((rd_T41 x7 x9).f3) ((rd_T41 x7 x9).f4)) else (none)) else (none)) else (formelaw20_FloatsApart.j2 k x0 x5 x6 x7 x9 false ((rd_T41 x7 x9).f0) ((rd_T41 x7 x9).f1) ((rd_T41 x7 x9).f2) ((rd_T41 x7 x9).f3) ((rd_T41 x7 x9).f4)))) else (none)))) else (none)) else (some x5)
def formelaw20_FloatsApart.j2 : Nat → List (S43) → Bool → Int → List (S41) → Int → Bool → Int → Int → Int → Int → Int → Option (Bool)
  | 0, _, _, _, _, _, _, _, _, _, _, _ => none
  | k + 1, x0, x5, x6, x7, x9, x83, x282000, x282001, x282002, x282003, x282004 => if x83 = true then (some false) else (formelaw20_FloatsApart.l1 k x0 x5 x6 x7 x9 0 x282000 x282001 x282002 x282003 x282004)
def formelaw20_FloatsApart.l1 : Nat → List (S43) → Bool → Int → List (S41) → Int → Int → Int → Int → Int → Int → Int → Option (Bool)
  | 0, _, _, _, _, _, _, _, _, _, _, _ => none
  | k + 1, x0, x5, x6, x7, x9, x11, x282000, x282001, x282002, x282003, x282004 => if x11 < x9 then (if 0 ≤ x11 then (if x11 < (x7.length : Int) then (if (mx x282001 ((rd_T41 x7 x11).f1)) < (mn (wrap64 (x282001 + x282003)) (wrap64 (((rd_T41 x7 x11).f1) + ((rd_T41 x7 x11).f3)))) then (if (mx x282002 ((rd_T41 x7 x11).f2)) < (mn (wrap64 (x282002 + x282004)) (wrap64 (((rd_T41 x7 x11).f2) + ((rd_T41 x7 x11).f4)))) then (some false) else (formelaw20_FloatsApart.l1 k x0 x5 x6 x7 x9 (wrap64 (x11 + 1)) x282000 x282001 x282002 x282003 x282004)) else (formelaw20_FloatsApart.l1 k x0 x5 x6 x7 x9 (wrap64 (x11 + 1)) x282000 x282001 x282002 x282003 x282004)) else (none)) else (none)) else (formelaw20_FloatsApart.l0 k x0 x5 x6 x7 (wrap64 (x9 + 1)))
end
def formelaw20_FloatsApart.f (k : Nat) (l0 : List (S43)) (a1 : Int) : Option (Bool) := (formelaw20_head.f k).bind fun t274 => (if (l0.length : Int) > 20 then (some t274) else ((formelaw20_placed.f k l0 (wrap64 (a1)) false).bind fun bt275 => (if bt275.2 = true then ((floats_Valid.f bt275.1 (wrap64 (a1))).bind fun t279 => (formelaw20_FloatsApart.j0 k l0 t274 (wrap64 (a1)) bt275.1 (!t279))) else (formelaw20_FloatsApart.j0 k l0 t274 (wrap64 (a1)) bt275.1 true))))
theorem formelaw20_FloatsApart.mono_l : ∀ k, (∀ y0 y1 y2 y3 y4, LeO (formelaw20_FloatsApart.j0 k y0 y1 y2 y3 y4) (formelaw20_FloatsApart.j0 (k + 1) y0 y1 y2 y3 y4)) ∧ (∀ y0 y1 y2 y3 y4, LeO (formelaw20_FloatsApart.l0 k y0 y1 y2 y3 y4) (formelaw20_FloatsApart.l0 (k + 1) y0 y1 y2 y3 y4)) ∧ (∀ y0 y1 y2 y3 y4 y5 y6 y7 y8 y9 y10, LeO (formelaw20_FloatsApart.j2 k y0 y1 y2 y3 y4 y5 y6 y7 y8 y9 y10) (formelaw20_FloatsApart.j2 (k + 1) y0 y1 y2 y3 y4 y5 y6 y7 y8 y9 y10)) ∧ (∀ y0 y1 y2 y3 y4 y5 y6 y7 y8 y9 y10, LeO (formelaw20_FloatsApart.l1 k y0 y1 y2 y3 y4 y5 y6 y7 y8 y9 y10) (formelaw20_FloatsApart.l1 (k + 1) y0 y1 y2 y3 y4 y5 y6 y7 y8 y9 y10))
  | 0 => ⟨fun _ _ _ _ _ r h => by simp [formelaw20_FloatsApart.j0] at h, fun _ _ _ _ _ r h => by simp [formelaw20_FloatsApart.l0] at h, fun _ _ _ _ _ _ _ _ _ _ _ r h => by simp [formelaw20_FloatsApart.j2] at h, fun _ _ _ _ _ _ _ _ _ _ _ r h => by simp [formelaw20_FloatsApart.l1] at h⟩
  | k + 1 => by
    obtain ⟨ih0, ih1, ih2, ih3⟩ := formelaw20_FloatsApart.mono_l k
    refine ⟨?_, ?_, ?_, ?_⟩
    · intro y0 y1 y2 y3 y4
      unfold formelaw20_FloatsApart.j0
      repeat' first
      | (with_reducible exact ih0 _ _ _ _ _)
      | (with_reducible exact ih1 _ _ _ _ _)
      | (with_reducible exact ih2 _ _ _ _ _ _ _ _ _ _ _)
      | (with_reducible exact ih3 _ _ _ _ _ _ _ _ _ _ _)
      | (with_reducible exact formelaw20_head.mono _)
      | (with_reducible exact formelaw20_placed.mono _ _ _ _)
      | (with_reducible exact LeO.refl _)
      | (with_reducible exact LeO.none _)
      | (with_reducible refine LeO.ite ?_ ?_)
      | (with_reducible refine LeO.bind ?_ (fun _ => ?_))
      | exact ih0 _ _ _ _ _
      | exact ih1 _ _ _ _ _
      | exact ih2 _ _ _ _ _ _ _ _ _ _ _
      | exact ih3 _ _ _ _ _ _ _ _ _ _ _
      | exact formelaw20_head.mono _
      | exact formelaw20_placed.mono _ _ _ _
      | exact LeO.none _
      | refine LeO.ite ?_ ?_
      | refine LeO.bind ?_ (fun _ => ?_)
    · intro y0 y1 y2 y3 y4
      unfold formelaw20_FloatsApart.l0
      repeat' first
      | (with_reducible exact ih0 _ _ _ _ _)
      | (with_reducible exact ih1 _ _ _ _ _)
      | (with_reducible exact ih2 _ _ _ _ _ _ _ _ _ _ _)
      | (with_reducible exact ih3 _ _ _ _ _ _ _ _ _ _ _)
      | (with_reducible exact formelaw20_head.mono _)
      | (with_reducible exact formelaw20_placed.mono _ _ _ _)
      | (with_reducible exact LeO.refl _)
      | (with_reducible exact LeO.none _)
      | (with_reducible refine LeO.ite ?_ ?_)
      | (with_reducible refine LeO.bind ?_ (fun _ => ?_))
      | exact ih0 _ _ _ _ _
      | exact ih1 _ _ _ _ _
      | exact ih2 _ _ _ _ _ _ _ _ _ _ _
      | exact ih3 _ _ _ _ _ _ _ _ _ _ _
      | exact formelaw20_head.mono _
      | exact formelaw20_placed.mono _ _ _ _
      | exact LeO.none _
      | refine LeO.ite ?_ ?_
      | refine LeO.bind ?_ (fun _ => ?_)
    · intro y0 y1 y2 y3 y4 y5 y6 y7 y8 y9 y10
      unfold formelaw20_FloatsApart.j2
      repeat' first
      | (with_reducible exact ih0 _ _ _ _ _)
      | (with_reducible exact ih1 _ _ _ _ _)
      | (with_reducible exact ih2 _ _ _ _ _ _ _ _ _ _ _)
      | (with_reducible exact ih3 _ _ _ _ _ _ _ _ _ _ _)
      | (with_reducible exact formelaw20_head.mono _)
      | (with_reducible exact formelaw20_placed.mono _ _ _ _)
      | (with_reducible exact LeO.refl _)
      | (with_reducible exact LeO.none _)
      | (with_reducible refine LeO.ite ?_ ?_)
      | (with_reducible refine LeO.bind ?_ (fun _ => ?_))
      | exact ih0 _ _ _ _ _
      | exact ih1 _ _ _ _ _
      | exact ih2 _ _ _ _ _ _ _ _ _ _ _
      | exact ih3 _ _ _ _ _ _ _ _ _ _ _
      | exact formelaw20_head.mono _
      | exact formelaw20_placed.mono _ _ _ _
      | exact LeO.none _
      | refine LeO.ite ?_ ?_
      | refine LeO.bind ?_ (fun _ => ?_)
    · intro y0 y1 y2 y3 y4 y5 y6 y7 y8 y9 y10
      unfold formelaw20_FloatsApart.l1
      repeat' first
      | (with_reducible exact ih0 _ _ _ _ _)
      | (with_reducible exact ih1 _ _ _ _ _)
      | (with_reducible exact ih2 _ _ _ _ _ _ _ _ _ _ _)
      | (with_reducible exact ih3 _ _ _ _ _ _ _ _ _ _ _)
      | (with_reducible exact formelaw20_head.mono _)
      | (with_reducible exact formelaw20_placed.mono _ _ _ _)
      | (with_reducible exact LeO.refl _)
      | (with_reducible exact LeO.none _)
      | (with_reducible refine LeO.ite ?_ ?_)
      | (with_reducible refine LeO.bind ?_ (fun _ => ?_))
      | exact ih0 _ _ _ _ _
      | exact ih1 _ _ _ _ _
      | exact ih2 _ _ _ _ _ _ _ _ _ _ _
      | exact ih3 _ _ _ _ _ _ _ _ _ _ _
      | exact formelaw20_head.mono _
      | exact formelaw20_placed.mono _ _ _ _
      | exact LeO.none _
      | refine LeO.ite ?_ ?_
      | refine LeO.bind ?_ (fun _ => ?_)
theorem formelaw20_FloatsApart.mono : ∀ a0 a1 k, LeO (formelaw20_FloatsApart.f k a0 a1) (formelaw20_FloatsApart.f (k + 1) a0 a1) := by
  intro a0 a1 k
  obtain ⟨ih0, ih1, ih2, ih3⟩ := formelaw20_FloatsApart.mono_l k
  unfold formelaw20_FloatsApart.f
  repeat' first
      | (with_reducible exact ih0 _ _ _ _ _)
      | (with_reducible exact ih1 _ _ _ _ _)
      | (with_reducible exact ih2 _ _ _ _ _ _ _ _ _ _ _)
      | (with_reducible exact ih3 _ _ _ _ _ _ _ _ _ _ _)
      | (with_reducible exact formelaw20_head.mono _)
      | (with_reducible exact formelaw20_placed.mono _ _ _ _)
      | (with_reducible exact LeO.refl _)
      | (with_reducible exact LeO.none _)
      | (with_reducible refine LeO.ite ?_ ?_)
      | (with_reducible refine LeO.bind ?_ (fun _ => ?_))
      | exact ih0 _ _ _ _ _
      | exact ih1 _ _ _ _ _
      | exact ih2 _ _ _ _ _ _ _ _ _ _ _
      | exact ih3 _ _ _ _ _ _ _ _ _ _ _
      | exact formelaw20_head.mono _
      | exact formelaw20_placed.mono _ _ _ _
      | exact LeO.none _
      | refine LeO.ite ?_ ?_
      | refine LeO.bind ?_ (fun _ => ?_)
set_option maxHeartbeats 80000000 in
set_option maxRecDepth 100000 in
theorem formelaw20_FloatsApart.calls (k : Nat) (A0 : Option Addr) (c0 : Nat) (l0 : List (S43)) (a1 : Int) (r : Bool) (w : World) (hr0 : Kd.C k43 w A0 l0.length l0) (hc0 : l0.length ≤ c0) (h : formelaw20_FloatsApart.f k l0 a1 = some r) :
    Calls Try.prog 4 #[.slice A0 l0.length c0, .int .u16 a1] w fun e w' => e = .returned (.bool r) ∧ Below w.heap.size w w' := by
  have hu41 := Try.underlying41
  have HR0 := Aside0.mk hr0
  have HC0 := Aside0.mk hc0
  clear hr0 hc0
  have HB := Aside0.mk (Below.refl w.heap.size w)
  have H : ((formelaw20_head.f k).bind fun t274 => (if (l0.length : Int) > 20 then (some t274) else ((formelaw20_placed.f k l0 (wrap64 (a1)) false).bind fun bt275 => (if bt275.2 = true then ((floats_Valid.f bt275.1 (wrap64 (a1))).bind fun t279 => (formelaw20_FloatsApart.j0 k l0 t274 (wrap64 (a1)) bt275.1 (!t279))) else (formelaw20_FloatsApart.j0 k l0 t274 (wrap64 (a1)) bt275.1 true))))) = some r := h
  clear h
  replace H := Option.bind_eq_some_iff.mp H
  obtain ⟨t274, A30, H⟩ := H
  replace H : (if (l0.length : Int) > 20 then (some t274) else ((formelaw20_placed.f k l0 (wrap64 (a1)) false).bind fun bt275 => (if bt275.2 = true then ((floats_Valid.f bt275.1 (wrap64 (a1))).bind fun t279 => (formelaw20_FloatsApart.j0 k l0 t274 (wrap64 (a1)) bt275.1 (!t279))) else (formelaw20_FloatsApart.j0 k l0 t274 (wrap64 (a1)) bt275.1 true)))) = some r := H
  have A3 := Aside0.mk A30
  clear A30
  by_cases c4 : (l0.length : Int) > 20
  · rw [if_pos c4] at H
    have c4b0 : decide (20 < (l0.length : Int)) = true := decide_eq_true c4
    have c4b1 : decide (20 < l0.length) = true := decide_eq_true (by omega)
    clear c4
    obtain rfl := Option.some.inj H
    go_enter Try.func4, Try.ntmps4
    go_wp2_with ((go_at_call 9; (with_reducible refine (formelaw20_head.calls k  t274 _ A3.out).mono ?_); rintro e w5 ⟨rfl, hb⟩; have n0_ := Aside0.mk (below_step (by repeat ((with_reducible exact HB.out))) hb); clear HB; have HB := n0_; clear n0_; (try clear hb)))
    repeat (go_quiet (fail); try go_wp2_with (fail))
    go_ret
    exact ⟨by rfl, by repeat ((with_reducible exact HB.out))⟩
  · rw [if_neg c4] at H
    have c4b0 : decide (20 < (l0.length : Int)) = false := decide_eq_false c4
    have c4b1 : decide (20 < l0.length) = false := decide_eq_false (by omega)
    clear c4
    replace H := Option.bind_eq_some_iff.mp H
    obtain ⟨⟨t275, t276⟩, A60, H⟩ := H
    replace H : (if t276 = true then ((floats_Valid.f t275 (wrap64 (a1))).bind fun t279 => (formelaw20_FloatsApart.j0 k l0 t274 (wrap64 (a1)) t275 (!t279))) else (formelaw20_FloatsApart.j0 k l0 t274 (wrap64 (a1)) t275 true)) = some r := H
    have A6 := Aside0.mk A60
    clear A60
    have HC7 := Aside0.mk H
    clear H
    go_enter Try.func4, Try.ntmps4
    go_upto_region 6 with (first | (go_at_call 9; (with_reducible refine (formelaw20_head.calls k  t274 _ A3.out).mono ?_); rintro e w8 ⟨rfl, hb⟩; have n0_ := Aside0.mk (below_step (by repeat ((with_reducible exact HB.out))) hb); clear HB; have HB := n0_; clear n0_; (try clear hb)) | (go_at_call 19; (with_reducible refine (formelaw20_placed.calls k _ _ l0 (wrap64 (a1)) false t275 t276 _ ?side1 ?side2 A6.out).mono ?_); (case side1 => repeat (exact (Kd.C_below HR0.out HB.out))); (case side2 => exact HC0.out); rintro e w9 ⟨v277, rfl, ho0, hb⟩; have n0_ := Aside0.mk (Kd.R_lower ho0 (below_size (by repeat ((with_reducible exact HB.out))))); have n1_ := Aside0.mk (below_step (by repeat ((with_reducible exact HB.out))) hb); clear HB; have HO278 := n0_; have HB := n1_; clear n0_ n1_; (try clear hb); (try clear ho0)))
    repeat (go_quiet (fail); go_upto_region 6 with (fail))
    (try simp only [Act.put, List.setIfInBounds_toArray, List.set_cons_zero, List.set_cons_succ])
    go_cut [35] (fun v35 wc => ∃ (kq : Nat) (x35_6 : Bool), v35 = .bool x35_6 ∧ Aside0 (formelaw20_FloatsApart.j0 kq l0 t274 (wrap64 (a1)) t275 x35_6 = some r) ∧ Aside0 (kq ≤ k) ∧ Aside0 (Kd.R k41 41 wc w.heap.size (fun _ => True) v277 t275) ∧ Aside0 (Below w.heap.size w wc))
    case first =>
      have H := HC7.out
      clear HC7
      by_cases c10 : t276 = true
      · subst c10
        have H1 : ((floats_Valid.f t275 (wrap64 (a1))).bind fun t279 => (formelaw20_FloatsApart.j0 k l0 t274 (wrap64 (a1)) t275 (!t279))) = some r := by rw [if_pos rfl] at H; exact H
        clear H
        have H := H1
        clear H1
        replace H := Option.bind_eq_some_iff.mp H
        obtain ⟨t279, A110, H⟩ := H
        replace H : (formelaw20_FloatsApart.j0 k l0 t274 (wrap64 (a1)) t275 (!t279)) = some r := H
        have A11 := Aside0.mk A110
        clear A110
        have H' := Aside0.mk H
        clear H
        obtain ⟨Ao12, co12, eo12⟩ := Kd.R_slice HO278.out
        subst eo12
        go_wp2_with ((go_at_call 12; (with_reducible refine (floats_Valid.calls _ _ t275 (wrap64 (a1)) t279 _ ?side1 ?side2 A11.out).mono ?_); (case side1 => repeat (exact (Kd.R_reads' HO278.out).2.2)); (case side2 => exact (Kd.R_reads' HO278.out).2.1); rintro e w13 ⟨rfl, hb⟩; have n0_ := Aside0.mk (Kd.R_below (by (with_reducible repeat (fail)); exact HO278.out) hb); have n1_ := Aside0.mk (below_step (by repeat ((with_reducible exact HB.out))) hb); clear HO278; clear HB; have HO278 := n0_; have HB := n1_; clear n0_ n1_; (try clear hb)))
        repeat (go_quiet (fail); try go_wp2_with (fail))
        go_meet
        case rel => exact ⟨_, (!t279), (by rfl), H', ⟨by omega⟩, ⟨by (with_reducible repeat (fail)); exact HO278.out⟩, ⟨by repeat ((with_reducible exact HB.out))⟩⟩
      · replace c10 := Bool.eq_false_iff.mpr c10
        subst c10
        have H1 : (formelaw20_FloatsApart.j0 k l0 t274 (wrap64 (a1)) t275 true) = some r := by rw [if_neg (show ¬ (false = true) by decide)] at H; exact H
        clear H
        have H := H1
        clear H1
        have H' := Aside0.mk H
        clear H
        go_wp2
        repeat (go_quiet (fail); try go_wp2)
        go_meet
        case rel => exact ⟨_, (true), (by rfl), H', ⟨by omega⟩, ⟨by (with_reducible repeat (fail)); exact HO278.out⟩, ⟨by repeat ((with_reducible exact HB.out))⟩⟩
    case rest =>
      clear HC7
      try clear c4b0
      try clear c4b1
      obtain ⟨kq, x35_6, rfl, HA, HJ6, HO_7, HB⟩ := hcut
      cases kq with
      | zero => exact absurd HA.out (by simp [formelaw20_FloatsApart.j0])
      | succ kj6 =>
        have H := HA.out
        clear HA
        simp only [formelaw20_FloatsApart.j0] at H
        by_cases c14 : x35_6 = true
        · subst c14
          have H1 : (some false) = some r := by rw [if_pos rfl] at H; exact H
          clear H
          have H := H1
          clear H1
          obtain rfl := Option.some.inj H
          go_wp2
          repeat (go_quiet (fail); try go_wp2)
          go_ret
          exact ⟨by rfl, by repeat ((with_reducible exact HB.out))⟩
        · replace c14 := Bool.eq_false_iff.mpr c14
          subst c14
          have H1 : (formelaw20_FloatsApart.l0 kj6 l0 t274 (wrap64 (a1)) t275 0) = some r := by rw [if_neg (show ¬ (false = true) by decide)] at H; exact H
          clear H
          have H := H1
          clear H1
          have H' := Aside0.mk H
          clear H
          go_wp2
          repeat (go_quiet (fail); try go_wp2)
          go_loopg [9] kj6 (fun kq v9 w' => ∃ (x9_2 : Int), v9 = .int .i64 x9_2 ∧ Aside0 (formelaw20_FloatsApart.l0 kq l0 t274 (wrap64 (a1)) t275 x9_2 = some r) ∧ Aside0 (kq ≤ kj6) ∧ Aside0 (Kd.R k41 41 w' w.heap.size (fun _ => True) v277 t275) ∧ Aside0 (Below w.heap.size w w'))
          case atStart => exact ⟨(0), (by rfl), H', ⟨Nat.le_refl _⟩, ⟨by (with_reducible repeat (fail)); exact HO_7.out⟩, ⟨by repeat ((with_reducible exact HB.out))⟩⟩
          case round =>
            clear H'
            obtain ⟨x9_2, rfl, HA, HK2, HO_7, HB⟩ := hrel
            cases gk with
            | zero => exact absurd HA.out (by simp [formelaw20_FloatsApart.l0])
            | succ k2 =>
              have H := HA.out
              clear HA
              simp only [formelaw20_FloatsApart.l0] at H
              by_cases c15 : x9_2 < (t275.length : Int)
              · rw [if_pos c15] at H
                have c15b0 : decide (x9_2 < (t275.length : Int)) = true := decide_eq_true c15
                clear c15
                by_cases c16 : 0 ≤ x9_2
                · rw [if_pos c16] at H
                  have c16b0 : decide (0 ≤ x9_2) = true := decide_eq_true c16
                  clear c16
                  have HC17 := Aside0.mk H
                  clear H
                  obtain ⟨Ao18, co18, eo18⟩ := Kd.R_slice HO_7.out
                  subst eo18
                  have p280 : 0 ≤ (x9_2 : Int) := of_decide_eq_true (by (with_reducible assumption))
                  have q280 : x9_2 < (t275.length : Int) := of_decide_eq_true (by (with_reducible assumption))
                  obtain ⟨ad280, e280, hx280_0, hx280_1, hx280_2, hx280_3, hx280_4⟩ := at_T41 (Kd.R_reads' HO_7.out).2.2 x9_2 p280 q280
                  cases e280
                  replace p280 := eq_true p280
                  replace q280 := eq_true q280
                  go_upto_region 12 with (((with_reducible refine gate_dst (N := 10) rfl ?_); refine box_event ?hg (N := 10) ?hd (cs := #[.int .i64 0, .int .i64 0, .int .i64 0, .int .i64 0, .int .i64 0]) (t := 41) ?hr ?_; (case hd => rfl); (case hg => rfl); (case hr => (go_simp; done)); intro gb281 hg w19 hbox hb; have n0_ := Aside0.mk (Kd.R_below (Kd.R_elderB (by (with_reducible repeat (fail)); exact HO_7.out) gb281 (Nat.le_of_eq hg.symm)) hb); have n1_ := Aside0.mk (below_step (by repeat ((with_reducible exact HB.out))) hb); have n2_ := Aside0.mk (hbox); have n3_ := Aside0.mk ((by rw [hg]; exact (below_size (by repeat ((with_reducible exact HB.out)))) : w.heap.size ≤ gb281)); have n4_ := Aside0.mk ((by rw [hg]; exact (below_size (by repeat ((with_reducible exact HB.out)))) : w.heap.size ≤ gb281)); clear HO_7; clear HB; have HO_7 := n0_; have HB := n1_; have BK281 := n2_; have GW281 := n3_; have GE281 := n4_; clear n0_ n1_ n2_ n3_ n4_; clear hb hbox hg; have hcz20_0 : w19.cell? ⟨gb281, 0, none⟩ = some (.int .i64 0) := (blk_cell BK281.out 0).trans rfl; have hcz20_1 : w19.cell? ⟨gb281, 1, none⟩ = some (.int .i64 0) := (blk_cell BK281.out 1).trans rfl; have hcz20_2 : w19.cell? ⟨gb281, 2, none⟩ = some (.int .i64 0) := (blk_cell BK281.out 2).trans rfl; have hcz20_3 : w19.cell? ⟨gb281, 3, none⟩ = some (.int .i64 0) := (blk_cell BK281.out 3).trans rfl; have hcz20_4 : w19.cell? ⟨gb281, 4, none⟩ = some (.int .i64 0) := (blk_cell BK281.out 4).trans rfl; have hfz20_0 := blk_frozen BK281.out 0; have hfz20_1 := blk_frozen BK281.out 1; have hfz20_2 := blk_frozen BK281.out 2; have hfz20_3 := blk_frozen BK281.out 3; have hfz20_4 := blk_frozen BK281.out 4))
                  repeat (go_quiet (fail); go_upto_region 12 with (fail))
                  (try simp only [Act.put, List.setIfInBounds_toArray, List.set_cons_zero, List.set_cons_succ])
                  go_cut [83] (fun v83 wc => ∃ (kq : Nat) (x83_16 : Bool), v83 = .bool x83_16 ∧ Aside0 (formelaw20_FloatsApart.j2 kq l0 t274 (wrap64 (a1)) t275 x9_2 x83_16 ((rd_T41 t275 x9_2).f0) ((rd_T41 t275 x9_2).f1) ((rd_T41 t275 x9_2).f2) ((rd_T41 t275 x9_2).f3) ((rd_T41 t275 x9_2).f4) = some r) ∧ Aside0 (kq ≤ k2) ∧ Aside0 (Kd.R k41 41 wc w.heap.size (fun k_ => k_ ≠ gb281) (.slice (some ad280) t275.length co18) t275) ∧ Aside0 (wc.heap[gb281]? = some (.cells #[.int .i64 ((rd_T41 t275 x9_2).f0), .int .i64 ((rd_T41 t275 x9_2).f1), .int .i64 ((rd_T41 t275 x9_2).f2), .int .i64 ((rd_T41 t275 x9_2).f3), .int .i64 ((rd_T41 t275 x9_2).f4)] 41 (0, 0))) ∧ Aside0 (Below w.heap.size w wc))
                  case first =>
                    have H := HC17.out
                    clear HC17
                    by_cases c21 : ((rd_T41 t275 x9_2).f1) < 0
                    · rw [if_pos c21] at H
                      have c21b0 : decide (((rd_T41 t275 x9_2).f1) < 0) = true := decide_eq_true c21
                      clear c21
                      (skip)
                      have H' := Aside0.mk H
                      clear H
                      have hcz22_0 : w19.cell? ⟨gb281, 0, none⟩ = some (.int .i64 0) := (blk_cell BK281.out 0).trans rfl
                      have hcz22_1 : w19.cell? ⟨gb281, 1, none⟩ = some (.int .i64 0) := (blk_cell BK281.out 1).trans rfl
                      have hcz22_2 : w19.cell? ⟨gb281, 2, none⟩ = some (.int .i64 0) := (blk_cell BK281.out 2).trans rfl
                      have hcz22_3 : w19.cell? ⟨gb281, 3, none⟩ = some (.int .i64 0) := (blk_cell BK281.out 3).trans rfl
                      have hcz22_4 : w19.cell? ⟨gb281, 4, none⟩ = some (.int .i64 0) := (blk_cell BK281.out 4).trans rfl
                      have hfz22_0 := blk_frozen BK281.out 0
                      have hfz22_1 := blk_frozen BK281.out 1
                      have hfz22_2 := blk_frozen BK281.out 2
                      have hfz22_3 := blk_frozen BK281.out 3
                      have hfz22_4 := blk_frozen BK281.out 4
                      go_wp2
                      repeat (go_quiet (fail); try go_wp2)
                      go_meet
                      case rel => exact ⟨_, (true), (by rfl), H', ⟨by have := HJ6.out; have := HK2.out; omega⟩, ⟨by (with_reducible repeat (apply Kd.R_drewN)); exact Kd.R_mono (Kd.R_far (p := ⟨gb281, 4, none⟩) (Kd.R_far (p := ⟨gb281, 3, none⟩) (Kd.R_far (p := ⟨gb281, 2, none⟩) (Kd.R_far (p := ⟨gb281, 1, none⟩) (Kd.R_far (p := ⟨gb281, 0, none⟩) (Kd.R_mono HO_7.out (fun k_ hk => (⟨hk, hk.2⟩ : _ ∧ k_ ≠ gb281))) (fun _ hk => hk.2) (.int .i64 ((rd_T41 t275 x9_2).f0))) (fun _ hk => hk.2) (.int .i64 ((rd_T41 t275 x9_2).f1))) (fun _ hk => hk.2) (.int .i64 ((rd_T41 t275 x9_2).f2))) (fun _ hk => hk.2) (.int .i64 ((rd_T41 t275 x9_2).f3))) (fun _ hk => hk.2) (.int .i64 ((rd_T41 t275 x9_2).f4))) (fun _ hk => hk.1.2)⟩, ⟨by (with_reducible repeat (refine blk_drewN ?_ _)); refine blk_put (cs := #[.int .i64 ((rd_T41 t275 x9_2).f0), .int .i64 ((rd_T41 t275 x9_2).f1), .int .i64 ((rd_T41 t275 x9_2).f2), .int .i64 ((rd_T41 t275 x9_2).f3), .int .i64 0]) ?_ 4 _ rfl; (with_reducible repeat (fail)); refine blk_put (cs := #[.int .i64 ((rd_T41 t275 x9_2).f0), .int .i64 ((rd_T41 t275 x9_2).f1), .int .i64 ((rd_T41 t275 x9_2).f2), .int .i64 0, .int .i64 0]) ?_ 3 _ rfl; (with_reducible repeat (fail)); refine blk_put (cs := #[.int .i64 ((rd_T41 t275 x9_2).f0), .int .i64 ((rd_T41 t275 x9_2).f1), .int .i64 0, .int .i64 0, .int .i64 0]) ?_ 2 _ rfl; (with_reducible repeat (fail)); refine blk_put (cs := #[.int .i64 ((rd_T41 t275 x9_2).f0), .int .i64 0, .int .i64 0, .int .i64 0, .int .i64 0]) ?_ 1 _ rfl; (with_reducible repeat (fail)); refine blk_put (cs := #[.int .i64 0, .int .i64 0, .int .i64 0, .int .i64 0, .int .i64 0]) ?_ 0 _ rfl; (with_reducible repeat (fail)); exact BK281.out⟩, ⟨by repeat ((with_reducible first | exact HB.out | apply pw_below_drewN | refine below_set ?_ GE281.out))⟩⟩
                    · rw [if_neg c21] at H
                      have c21b0 : decide (((rd_T41 t275 x9_2).f1) < 0) = false := decide_eq_false c21
                      clear c21
                      (skip)
                      by_cases c23 : (wrap64 (((rd_T41 t275 x9_2).f1) + ((rd_T41 t275 x9_2).f3))) > (wrap64 (a1))
                      · rw [if_pos c23] at H
                        have c23b0 : decide ((wrap64 (a1)) < (wrap64 (((rd_T41 t275 x9_2).f1) + ((rd_T41 t275 x9_2).f3)))) = true := decide_eq_true c23
                        clear c23
                        have H' := Aside0.mk H
                        clear H
                        have hcz24_0 : w19.cell? ⟨gb281, 0, none⟩ = some (.int .i64 0) := (blk_cell BK281.out 0).trans rfl
                        have hcz24_1 : w19.cell? ⟨gb281, 1, none⟩ = some (.int .i64 0) := (blk_cell BK281.out 1).trans rfl
                        have hcz24_2 : w19.cell? ⟨gb281, 2, none⟩ = some (.int .i64 0) := (blk_cell BK281.out 2).trans rfl
                        have hcz24_3 : w19.cell? ⟨gb281, 3, none⟩ = some (.int .i64 0) := (blk_cell BK281.out 3).trans rfl
                        have hcz24_4 : w19.cell? ⟨gb281, 4, none⟩ = some (.int .i64 0) := (blk_cell BK281.out 4).trans rfl
                        have hfz24_0 := blk_frozen BK281.out 0
                        have hfz24_1 := blk_frozen BK281.out 1
                        have hfz24_2 := blk_frozen BK281.out 2
                        have hfz24_3 := blk_frozen BK281.out 3
                        have hfz24_4 := blk_frozen BK281.out 4
                        go_wp2
                        repeat (go_quiet (fail); try go_wp2)
                        go_meet
                        case rel => exact ⟨_, (true), (by rfl), H', ⟨by have := HJ6.out; have := HK2.out; omega⟩, ⟨by (with_reducible repeat (apply Kd.R_drewN)); exact Kd.R_mono (Kd.R_far (p := ⟨gb281, 4, none⟩) (Kd.R_far (p := ⟨gb281, 3, none⟩) (Kd.R_far (p := ⟨gb281, 2, none⟩) (Kd.R_far (p := ⟨gb281, 1, none⟩) (Kd.R_far (p := ⟨gb281, 0, none⟩) (Kd.R_mono HO_7.out (fun k_ hk => (⟨hk, hk.2⟩ : _ ∧ k_ ≠ gb281))) (fun _ hk => hk.2) (.int .i64 ((rd_T41 t275 x9_2).f0))) (fun _ hk => hk.2) (.int .i64 ((rd_T41 t275 x9_2).f1))) (fun _ hk => hk.2) (.int .i64 ((rd_T41 t275 x9_2).f2))) (fun _ hk => hk.2) (.int .i64 ((rd_T41 t275 x9_2).f3))) (fun _ hk => hk.2) (.int .i64 ((rd_T41 t275 x9_2).f4))) (fun _ hk => hk.1.2)⟩, ⟨by (with_reducible repeat (refine blk_drewN ?_ _)); refine blk_put (cs := #[.int .i64 ((rd_T41 t275 x9_2).f0), .int .i64 ((rd_T41 t275 x9_2).f1), .int .i64 ((rd_T41 t275 x9_2).f2), .int .i64 ((rd_T41 t275 x9_2).f3), .int .i64 0]) ?_ 4 _ rfl; (with_reducible repeat (fail)); refine blk_put (cs := #[.int .i64 ((rd_T41 t275 x9_2).f0), .int .i64 ((rd_T41 t275 x9_2).f1), .int .i64 ((rd_T41 t275 x9_2).f2), .int .i64 0, .int .i64 0]) ?_ 3 _ rfl; (with_reducible repeat (fail)); refine blk_put (cs := #[.int .i64 ((rd_T41 t275 x9_2).f0), .int .i64 ((rd_T41 t275 x9_2).f1), .int .i64 0, .int .i64 0, .int .i64 0]) ?_ 2 _ rfl; (with_reducible repeat (fail)); refine blk_put (cs := #[.int .i64 ((rd_T41 t275 x9_2).f0), .int .i64 0, .int .i64 0, .int .i64 0, .int .i64 0]) ?_ 1 _ rfl; (with_reducible repeat (fail)); refine blk_put (cs := #[.int .i64 0, .int .i64 0, .int .i64 0, .int .i64 0, .int .i64 0]) ?_ 0 _ rfl; (with_reducible repeat (fail)); exact BK281.out⟩, ⟨by repeat ((with_reducible first | exact HB.out | apply pw_below_drewN | refine below_set ?_ GE281.out))⟩⟩
                      · rw [if_neg c23] at H
                        have c23b0 : decide ((wrap64 (a1)) < (wrap64 (((rd_T41 t275 x9_2).f1) + ((rd_T41 t275 x9_2).f3)))) = false := decide_eq_false c23
                        clear c23
                        by_cases c25 : x9_2 < (l0.length : Int)
                        · rw [if_pos c25] at H
                          have c25b0 : decide (x9_2 < (l0.length : Int)) = true := decide_eq_true c25
                          clear c25
                          by_cases c26 : ((rd_T41 t275 x9_2).f2) < (wrap64 ((rd_T43 l0 x9_2).f1))
                          · rw [if_pos c26] at H
                            have c26b0 : decide (((rd_T41 t275 x9_2).f2) < (wrap64 ((rd_T43 l0 x9_2).f1))) = true := decide_eq_true c26
                            clear c26
                            have H' := Aside0.mk H
                            clear H
                            have hcz27_0 : w19.cell? ⟨gb281, 0, none⟩ = some (.int .i64 0) := (blk_cell BK281.out 0).trans rfl
                            have hcz27_1 : w19.cell? ⟨gb281, 1, none⟩ = some (.int .i64 0) := (blk_cell BK281.out 1).trans rfl
                            have hcz27_2 : w19.cell? ⟨gb281, 2, none⟩ = some (.int .i64 0) := (blk_cell BK281.out 2).trans rfl
                            have hcz27_3 : w19.cell? ⟨gb281, 3, none⟩ = some (.int .i64 0) := (blk_cell BK281.out 3).trans rfl
                            have hcz27_4 : w19.cell? ⟨gb281, 4, none⟩ = some (.int .i64 0) := (blk_cell BK281.out 4).trans rfl
                            have hfz27_0 := blk_frozen BK281.out 0
                            have hfz27_1 := blk_frozen BK281.out 1
                            have hfz27_2 := blk_frozen BK281.out 2
                            have hfz27_3 := blk_frozen BK281.out 3
                            have hfz27_4 := blk_frozen BK281.out 4
                            have p282 : 0 ≤ (x9_2 : Int) := of_decide_eq_true (by (with_reducible assumption))
                            have q282 : x9_2 < (l0.length : Int) := of_decide_eq_true (by (with_reducible assumption))
                            obtain ⟨ad282, e282, hx282_0, hx282_1, hx282_2, hx282_3⟩ := at_T43 HR0.out x9_2 p282 q282
                            cases e282
                            have hn282_0 : ad282.block ≠ gb281 := Nat.ne_of_lt (Nat.lt_of_lt_of_le (by have := World.block_lt_of_cell? _ _ hx282_0; rwa [add_block] at this) GW281.out)
                            have hn282_1 : ad282.block ≠ gb281 := Nat.ne_of_lt (Nat.lt_of_lt_of_le (by have := World.block_lt_of_cell? _ _ hx282_0; rwa [add_block] at this) GW281.out)
                            have hn282_2 : ad282.block ≠ gb281 := Nat.ne_of_lt (Nat.lt_of_lt_of_le (by have := World.block_lt_of_cell? _ _ hx282_0; rwa [add_block] at this) GW281.out)
                            have hn282_3 : ad282.block ≠ gb281 := Nat.ne_of_lt (Nat.lt_of_lt_of_le (by have := World.block_lt_of_cell? _ _ hx282_0; rwa [add_block] at this) GW281.out)
                            have hn282_4 : ad282.block ≠ gb281 := Nat.ne_of_lt (Nat.lt_of_lt_of_le (by have := World.block_lt_of_cell? _ _ hx282_0; rwa [add_block] at this) GW281.out)
                            replace hx282_0 := (HB.out.cell (World.block_lt_of_cell? w _ hx282_0)).trans hx282_0
                            replace hx282_1 := (HB.out.cell (World.block_lt_of_cell? w _ hx282_1)).trans hx282_1
                            replace hx282_2 := (HB.out.cell (World.block_lt_of_cell? w _ hx282_2)).trans hx282_2
                            replace hx282_3 := (HB.out.cell (World.block_lt_of_cell? w _ hx282_3)).trans hx282_3
                            replace hx282_0 := (cell_far (p := ⟨gb281, 0, none⟩) (by (rw [add_block]; exact hn282_0)) (.int .i64 ((rd_T41 t275 x9_2).f0))).trans hx282_0
                            replace hx282_1 := (cell_far (p := ⟨gb281, 0, none⟩) (by (rw [add_block]; exact hn282_0)) (.int .i64 ((rd_T41 t275 x9_2).f0))).trans hx282_1
                            replace hx282_2 := (cell_far (p := ⟨gb281, 0, none⟩) (by (rw [add_block]; exact hn282_0)) (.int .i64 ((rd_T41 t275 x9_2).f0))).trans hx282_2
                            replace hx282_3 := (cell_far (p := ⟨gb281, 0, none⟩) (by (rw [add_block]; exact hn282_0)) (.int .i64 ((rd_T41 t275 x9_2).f0))).trans hx282_3
                            replace hx282_0 := (cell_far (p := ⟨gb281, 1, none⟩) (by (rw [add_block]; exact hn282_1)) (.int .i64 ((rd_T41 t275 x9_2).f1))).trans hx282_0
                            replace hx282_1 := (cell_far (p := ⟨gb281, 1, none⟩) (by (rw [add_block]; exact hn282_1)) (.int .i64 ((rd_T41 t275 x9_2).f1))).trans hx282_1
                            replace hx282_2 := (cell_far (p := ⟨gb281, 1, none⟩) (by (rw [add_block]; exact hn282_1)) (.int .i64 ((rd_T41 t275 x9_2).f1))).trans hx282_2
                            replace hx282_3 := (cell_far (p := ⟨gb281, 1, none⟩) (by (rw [add_block]; exact hn282_1)) (.int .i64 ((rd_T41 t275 x9_2).f1))).trans hx282_3
                            replace hx282_0 := (cell_far (p := ⟨gb281, 2, none⟩) (by (rw [add_block]; exact hn282_2)) (.int .i64 ((rd_T41 t275 x9_2).f2))).trans hx282_0
                            replace hx282_1 := (cell_far (p := ⟨gb281, 2, none⟩) (by (rw [add_block]; exact hn282_2)) (.int .i64 ((rd_T41 t275 x9_2).f2))).trans hx282_1
                            replace hx282_2 := (cell_far (p := ⟨gb281, 2, none⟩) (by (rw [add_block]; exact hn282_2)) (.int .i64 ((rd_T41 t275 x9_2).f2))).trans hx282_2
                            replace hx282_3 := (cell_far (p := ⟨gb281, 2, none⟩) (by (rw [add_block]; exact hn282_2)) (.int .i64 ((rd_T41 t275 x9_2).f2))).trans hx282_3
                            replace hx282_0 := (cell_far (p := ⟨gb281, 3, none⟩) (by (rw [add_block]; exact hn282_3)) (.int .i64 ((rd_T41 t275 x9_2).f3))).trans hx282_0
                            replace hx282_1 := (cell_far (p := ⟨gb281, 3, none⟩) (by (rw [add_block]; exact hn282_3)) (.int .i64 ((rd_T41 t275 x9_2).f3))).trans hx282_1
                            replace hx282_2 := (cell_far (p := ⟨gb281, 3, none⟩) (by (rw [add_block]; exact hn282_3)) (.int .i64 ((rd_T41 t275 x9_2).f3))).trans hx282_2
                            replace hx282_3 := (cell_far (p := ⟨gb281, 3, none⟩) (by (rw [add_block]; exact hn282_3)) (.int .i64 ((rd_T41 t275 x9_2).f3))).trans hx282_3
                            replace hx282_0 := (cell_far (p := ⟨gb281, 4, none⟩) (by (rw [add_block]; exact hn282_4)) (.int .i64 ((rd_T41 t275 x9_2).f4))).trans hx282_0
                            replace hx282_1 := (cell_far (p := ⟨gb281, 4, none⟩) (by (rw [add_block]; exact hn282_4)) (.int .i64 ((rd_T41 t275 x9_2).f4))).trans hx282_1
                            replace hx282_2 := (cell_far (p := ⟨gb281, 4, none⟩) (by (rw [add_block]; exact hn282_4)) (.int .i64 ((rd_T41 t275 x9_2).f4))).trans hx282_2
                            replace hx282_3 := (cell_far (p := ⟨gb281, 4, none⟩) (by (rw [add_block]; exact hn282_4)) (.int .i64 ((rd_T41 t275 x9_2).f4))).trans hx282_3
                            (try have hy282_0 := fun (n_ : Nat) => (show (((((((w19.drewN n_).setCell ⟨gb281, 0, none⟩ (.int .i64 ((rd_T41 t275 x9_2).f0))).setCell ⟨gb281, 1, none⟩ (.int .i64 ((rd_T41 t275 x9_2).f1))).setCell ⟨gb281, 2, none⟩ (.int .i64 ((rd_T41 t275 x9_2).f2))).setCell ⟨gb281, 3, none⟩ (.int .i64 ((rd_T41 t275 x9_2).f3))).setCell ⟨gb281, 4, none⟩ (.int .i64 ((rd_T41 t275 x9_2).f4)))).cell? _ = some _ from hx282_0))
                            (try have hy282_1 := fun (n_ : Nat) => (show (((((((w19.drewN n_).setCell ⟨gb281, 0, none⟩ (.int .i64 ((rd_T41 t275 x9_2).f0))).setCell ⟨gb281, 1, none⟩ (.int .i64 ((rd_T41 t275 x9_2).f1))).setCell ⟨gb281, 2, none⟩ (.int .i64 ((rd_T41 t275 x9_2).f2))).setCell ⟨gb281, 3, none⟩ (.int .i64 ((rd_T41 t275 x9_2).f3))).setCell ⟨gb281, 4, none⟩ (.int .i64 ((rd_T41 t275 x9_2).f4)))).cell? _ = some _ from hx282_1))
                            (try have hy282_2 := fun (n_ : Nat) => (show (((((((w19.drewN n_).setCell ⟨gb281, 0, none⟩ (.int .i64 ((rd_T41 t275 x9_2).f0))).setCell ⟨gb281, 1, none⟩ (.int .i64 ((rd_T41 t275 x9_2).f1))).setCell ⟨gb281, 2, none⟩ (.int .i64 ((rd_T41 t275 x9_2).f2))).setCell ⟨gb281, 3, none⟩ (.int .i64 ((rd_T41 t275 x9_2).f3))).setCell ⟨gb281, 4, none⟩ (.int .i64 ((rd_T41 t275 x9_2).f4)))).cell? _ = some _ from hx282_2))
                            (try have hy282_3 := fun (n_ : Nat) => (show (((((((w19.drewN n_).setCell ⟨gb281, 0, none⟩ (.int .i64 ((rd_T41 t275 x9_2).f0))).setCell ⟨gb281, 1, none⟩ (.int .i64 ((rd_T41 t275 x9_2).f1))).setCell ⟨gb281, 2, none⟩ (.int .i64 ((rd_T41 t275 x9_2).f2))).setCell ⟨gb281, 3, none⟩ (.int .i64 ((rd_T41 t275 x9_2).f3))).setCell ⟨gb281, 4, none⟩ (.int .i64 ((rd_T41 t275 x9_2).f4)))).cell? _ = some _ from hx282_3))
                            clear hn282_0
                            clear hn282_1
                            clear hn282_2
                            clear hn282_3
                            clear hn282_4
                            replace p282 := eq_true p282
                            replace q282 := eq_true q282
                            go_wp2
                            repeat (go_quiet (fail); try go_wp2)
                            go_meet
                            case rel => exact ⟨_, (true), (by rfl), H', ⟨by have := HJ6.out; have := HK2.out; omega⟩, ⟨by (with_reducible repeat (apply Kd.R_drewN)); exact Kd.R_mono (Kd.R_far (p := ⟨gb281, 4, none⟩) (Kd.R_far (p := ⟨gb281, 3, none⟩) (Kd.R_far (p := ⟨gb281, 2, none⟩) (Kd.R_far (p := ⟨gb281, 1, none⟩) (Kd.R_far (p := ⟨gb281, 0, none⟩) (Kd.R_mono HO_7.out (fun k_ hk => (⟨hk, hk.2⟩ : _ ∧ k_ ≠ gb281))) (fun _ hk => hk.2) (.int .i64 ((rd_T41 t275 x9_2).f0))) (fun _ hk => hk.2) (.int .i64 ((rd_T41 t275 x9_2).f1))) (fun _ hk => hk.2) (.int .i64 ((rd_T41 t275 x9_2).f2))) (fun _ hk => hk.2) (.int .i64 ((rd_T41 t275 x9_2).f3))) (fun _ hk => hk.2) (.int .i64 ((rd_T41 t275 x9_2).f4))) (fun _ hk => hk.1.2)⟩, ⟨by (with_reducible repeat (refine blk_drewN ?_ _)); refine blk_put (cs := #[.int .i64 ((rd_T41 t275 x9_2).f0), .int .i64 ((rd_T41 t275 x9_2).f1), .int .i64 ((rd_T41 t275 x9_2).f2), .int .i64 ((rd_T41 t275 x9_2).f3), .int .i64 0]) ?_ 4 _ rfl; (with_reducible repeat (fail)); refine blk_put (cs := #[.int .i64 ((rd_T41 t275 x9_2).f0), .int .i64 ((rd_T41 t275 x9_2).f1), .int .i64 ((rd_T41 t275 x9_2).f2), .int .i64 0, .int .i64 0]) ?_ 3 _ rfl; (with_reducible repeat (fail)); refine blk_put (cs := #[.int .i64 ((rd_T41 t275 x9_2).f0), .int .i64 ((rd_T41 t275 x9_2).f1), .int .i64 0, .int .i64 0, .int .i64 0]) ?_ 2 _ rfl; (with_reducible repeat (fail)); refine blk_put (cs := #[.int .i64 ((rd_T41 t275 x9_2).f0), .int .i64 0, .int .i64 0, .int .i64 0, .int .i64 0]) ?_ 1 _ rfl; (with_reducible repeat (fail)); refine blk_put (cs := #[.int .i64 0, .int .i64 0, .int .i64 0, .int .i64 0, .int .i64 0]) ?_ 0 _ rfl; (with_reducible repeat (fail)); exact BK281.out⟩, ⟨by repeat ((with_reducible first | exact HB.out | apply pw_below_drewN | refine below_set ?_ GE281.out))⟩⟩
                          · rw [if_neg c26] at H
                            have c26b0 : decide (((rd_T41 t275 x9_2).f2) < (wrap64 ((rd_T43 l0 x9_2).f1))) = false := decide_eq_false c26
                            clear c26
                            by_cases c28 : x9_2 > 0
                            · rw [if_pos c28] at H
                              have c28b0 : decide (0 < x9_2) = true := decide_eq_true c28
                              clear c28
                              obtain ⟨ji29, hji29⟩ : ∃ j_ : Int, (wrap64 (x9_2 - 1)) = j_ := ⟨_, rfl⟩
                              replace H : (if 0 ≤ (ji29) then (if (ji29) < (t275.length : Int) then (formelaw20_FloatsApart.j2 k2 l0 t274 (wrap64 (a1)) t275 x9_2 (decide (((rd_T41 t275 x9_2).f2) < ((rd_T41 t275 (ji29)).f2))) ((rd_T41 t275 x9_2).f0) ((rd_T41 t275 x9_2).f1) ((rd_T41 t275 x9_2).f2) ((rd_T41 t275 x9_2).f3) ((rd_T41 t275 x9_2).f4)) else (none)) else (none)) = some r := by (rw [hji29] at H; exact H)
                              have hji29w : (IntKind.i64.wrap (x9_2 - 1)) = ji29 := (i64_w _).trans hji29
                              by_cases c30 : 0 ≤ (ji29)
                              · rw [if_pos c30] at H
                                have c30b0 : decide (0 ≤ (ji29)) = true := decide_eq_true c30
                                clear c30
                                by_cases c31 : (ji29) < (t275.length : Int)
                                · rw [if_pos c31] at H
                                  have c31b0 : decide ((ji29) < (t275.length : Int)) = true := decide_eq_true c31
                                  clear c31
                                  have H' := Aside0.mk H
                                  clear H
                                  have hcz32_0 : w19.cell? ⟨gb281, 0, none⟩ = some (.int .i64 0) := (blk_cell BK281.out 0).trans rfl
                                  have hcz32_1 : w19.cell? ⟨gb281, 1, none⟩ = some (.int .i64 0) := (blk_cell BK281.out 1).trans rfl
                                  have hcz32_2 : w19.cell? ⟨gb281, 2, none⟩ = some (.int .i64 0) := (blk_cell BK281.out 2).trans rfl
                                  have hcz32_3 : w19.cell? ⟨gb281, 3, none⟩ = some (.int .i64 0) := (blk_cell BK281.out 3).trans rfl
                                  have hcz32_4 : w19.cell? ⟨gb281, 4, none⟩ = some (.int .i64 0) := (blk_cell BK281.out 4).trans rfl
                                  have hfz32_0 := blk_frozen BK281.out 0
                                  have hfz32_1 := blk_frozen BK281.out 1
                                  have hfz32_2 := blk_frozen BK281.out 2
                                  have hfz32_3 := blk_frozen BK281.out 3
                                  have hfz32_4 := blk_frozen BK281.out 4
                                  have p282 : 0 ≤ (x9_2 : Int) := of_decide_eq_true (by (with_reducible assumption))
                                  have q282 : x9_2 < (l0.length : Int) := of_decide_eq_true (by (with_reducible assumption))
                                  obtain ⟨ad282, e282, hx282_0, hx282_1, hx282_2, hx282_3⟩ := at_T43 HR0.out x9_2 p282 q282
                                  cases e282
                                  have hn282_0 : ad282.block ≠ gb281 := Nat.ne_of_lt (Nat.lt_of_lt_of_le (by have := World.block_lt_of_cell? _ _ hx282_0; rwa [add_block] at this) GW281.out)
                                  have hn282_1 : ad282.block ≠ gb281 := Nat.ne_of_lt (Nat.lt_of_lt_of_le (by have := World.block_lt_of_cell? _ _ hx282_0; rwa [add_block] at this) GW281.out)
                                  have hn282_2 : ad282.block ≠ gb281 := Nat.ne_of_lt (Nat.lt_of_lt_of_le (by have := World.block_lt_of_cell? _ _ hx282_0; rwa [add_block] at this) GW281.out)
                                  have hn282_3 : ad282.block ≠ gb281 := Nat.ne_of_lt (Nat.lt_of_lt_of_le (by have := World.block_lt_of_cell? _ _ hx282_0; rwa [add_block] at this) GW281.out)
                                  have hn282_4 : ad282.block ≠ gb281 := Nat.ne_of_lt (Nat.lt_of_lt_of_le (by have := World.block_lt_of_cell? _ _ hx282_0; rwa [add_block] at this) GW281.out)
                                  replace hx282_0 := (HB.out.cell (World.block_lt_of_cell? w _ hx282_0)).trans hx282_0
                                  replace hx282_1 := (HB.out.cell (World.block_lt_of_cell? w _ hx282_1)).trans hx282_1
                                  replace hx282_2 := (HB.out.cell (World.block_lt_of_cell? w _ hx282_2)).trans hx282_2
                                  replace hx282_3 := (HB.out.cell (World.block_lt_of_cell? w _ hx282_3)).trans hx282_3
                                  replace hx282_0 := (cell_far (p := ⟨gb281, 0, none⟩) (by (rw [add_block]; exact hn282_0)) (.int .i64 ((rd_T41 t275 x9_2).f0))).trans hx282_0
                                  replace hx282_1 := (cell_far (p := ⟨gb281, 0, none⟩) (by (rw [add_block]; exact hn282_0)) (.int .i64 ((rd_T41 t275 x9_2).f0))).trans hx282_1
                                  replace hx282_2 := (cell_far (p := ⟨gb281, 0, none⟩) (by (rw [add_block]; exact hn282_0)) (.int .i64 ((rd_T41 t275 x9_2).f0))).trans hx282_2
                                  replace hx282_3 := (cell_far (p := ⟨gb281, 0, none⟩) (by (rw [add_block]; exact hn282_0)) (.int .i64 ((rd_T41 t275 x9_2).f0))).trans hx282_3
                                  replace hx282_0 := (cell_far (p := ⟨gb281, 1, none⟩) (by (rw [add_block]; exact hn282_1)) (.int .i64 ((rd_T41 t275 x9_2).f1))).trans hx282_0
                                  replace hx282_1 := (cell_far (p := ⟨gb281, 1, none⟩) (by (rw [add_block]; exact hn282_1)) (.int .i64 ((rd_T41 t275 x9_2).f1))).trans hx282_1
                                  replace hx282_2 := (cell_far (p := ⟨gb281, 1, none⟩) (by (rw [add_block]; exact hn282_1)) (.int .i64 ((rd_T41 t275 x9_2).f1))).trans hx282_2
                                  replace hx282_3 := (cell_far (p := ⟨gb281, 1, none⟩) (by (rw [add_block]; exact hn282_1)) (.int .i64 ((rd_T41 t275 x9_2).f1))).trans hx282_3
                                  replace hx282_0 := (cell_far (p := ⟨gb281, 2, none⟩) (by (rw [add_block]; exact hn282_2)) (.int .i64 ((rd_T41 t275 x9_2).f2))).trans hx282_0
                                  replace hx282_1 := (cell_far (p := ⟨gb281, 2, none⟩) (by (rw [add_block]; exact hn282_2)) (.int .i64 ((rd_T41 t275 x9_2).f2))).trans hx282_1
                                  replace hx282_2 := (cell_far (p := ⟨gb281, 2, none⟩) (by (rw [add_block]; exact hn282_2)) (.int .i64 ((rd_T41 t275 x9_2).f2))).trans hx282_2
                                  replace hx282_3 := (cell_far (p := ⟨gb281, 2, none⟩) (by (rw [add_block]; exact hn282_2)) (.int .i64 ((rd_T41 t275 x9_2).f2))).trans hx282_3
                                  replace hx282_0 := (cell_far (p := ⟨gb281, 3, none⟩) (by (rw [add_block]; exact hn282_3)) (.int .i64 ((rd_T41 t275 x9_2).f3))).trans hx282_0
                                  replace hx282_1 := (cell_far (p := ⟨gb281, 3, none⟩) (by (rw [add_block]; exact hn282_3)) (.int .i64 ((rd_T41 t275 x9_2).f3))).trans hx282_1
                                  replace hx282_2 := (cell_far (p := ⟨gb281, 3, none⟩) (by (rw [add_block]; exact hn282_3)) (.int .i64 ((rd_T41 t275 x9_2).f3))).trans hx282_2
                                  replace hx282_3 := (cell_far (p := ⟨gb281, 3, none⟩) (by (rw [add_block]; exact hn282_3)) (.int .i64 ((rd_T41 t275 x9_2).f3))).trans hx282_3
                                  replace hx282_0 := (cell_far (p := ⟨gb281, 4, none⟩) (by (rw [add_block]; exact hn282_4)) (.int .i64 ((rd_T41 t275 x9_2).f4))).trans hx282_0
                                  replace hx282_1 := (cell_far (p := ⟨gb281, 4, none⟩) (by (rw [add_block]; exact hn282_4)) (.int .i64 ((rd_T41 t275 x9_2).f4))).trans hx282_1
                                  replace hx282_2 := (cell_far (p := ⟨gb281, 4, none⟩) (by (rw [add_block]; exact hn282_4)) (.int .i64 ((rd_T41 t275 x9_2).f4))).trans hx282_2
                                  replace hx282_3 := (cell_far (p := ⟨gb281, 4, none⟩) (by (rw [add_block]; exact hn282_4)) (.int .i64 ((rd_T41 t275 x9_2).f4))).trans hx282_3
                                  (try have hy282_0 := fun (n_ : Nat) => (show (((((((w19.drewN n_).setCell ⟨gb281, 0, none⟩ (.int .i64 ((rd_T41 t275 x9_2).f0))).setCell ⟨gb281, 1, none⟩ (.int .i64 ((rd_T41 t275 x9_2).f1))).setCell ⟨gb281, 2, none⟩ (.int .i64 ((rd_T41 t275 x9_2).f2))).setCell ⟨gb281, 3, none⟩ (.int .i64 ((rd_T41 t275 x9_2).f3))).setCell ⟨gb281, 4, none⟩ (.int .i64 ((rd_T41 t275 x9_2).f4)))).cell? _ = some _ from hx282_0))
                                  (try have hy282_1 := fun (n_ : Nat) => (show (((((((w19.drewN n_).setCell ⟨gb281, 0, none⟩ (.int .i64 ((rd_T41 t275 x9_2).f0))).setCell ⟨gb281, 1, none⟩ (.int .i64 ((rd_T41 t275 x9_2).f1))).setCell ⟨gb281, 2, none⟩ (.int .i64 ((rd_T41 t275 x9_2).f2))).setCell ⟨gb281, 3, none⟩ (.int .i64 ((rd_T41 t275 x9_2).f3))).setCell ⟨gb281, 4, none⟩ (.int .i64 ((rd_T41 t275 x9_2).f4)))).cell? _ = some _ from hx282_1))
                                  (try have hy282_2 := fun (n_ : Nat) => (show (((((((w19.drewN n_).setCell ⟨gb281, 0, none⟩ (.int .i64 ((rd_T41 t275 x9_2).f0))).setCell ⟨gb281, 1, none⟩ (.int .i64 ((rd_T41 t275 x9_2).f1))).setCell ⟨gb281, 2, none⟩ (.int .i64 ((rd_T41 t275 x9_2).f2))).setCell ⟨gb281, 3, none⟩ (.int .i64 ((rd_T41 t275 x9_2).f3))).setCell ⟨gb281, 4, none⟩ (.int .i64 ((rd_T41 t275 x9_2).f4)))).cell? _ = some _ from hx282_2))
                                  (try have hy282_3 := fun (n_ : Nat) => (show (((((((w19.drewN n_).setCell ⟨gb281, 0, none⟩ (.int .i64 ((rd_T41 t275 x9_2).f0))).setCell ⟨gb281, 1, none⟩ (.int .i64 ((rd_T41 t275 x9_2).f1))).setCell ⟨gb281, 2, none⟩ (.int .i64 ((rd_T41 t275 x9_2).f2))).setCell ⟨gb281, 3, none⟩ (.int .i64 ((rd_T41 t275 x9_2).f3))).setCell ⟨gb281, 4, none⟩ (.int .i64 ((rd_T41 t275 x9_2).f4)))).cell? _ = some _ from hx282_3))
                                  clear hn282_0
                                  clear hn282_1
                                  clear hn282_2
                                  clear hn282_3
                                  clear hn282_4
                                  replace p282 := eq_true p282
                                  replace q282 := eq_true q282
                                  have p283 : 0 ≤ ((ji29) : Int) := of_decide_eq_true (by (with_reducible assumption))
                                  have q283 : (ji29) < (t275.length : Int) := of_decide_eq_true (by (with_reducible assumption))
                                  obtain ⟨ad283, e283, hx283_0, hx283_1, hx283_2, hx283_3, hx283_4⟩ := at_T41 (Kd.R_reads' HO_7.out).2.2 (ji29) p283 q283
                                  obtain rfl : ad280 = ad283 := (by injection e283)
                                  have hn283_0 : ad280.block ≠ gb281 := Kd.own_blk (Kd.R_away HO_7.out (fun _ hk => hk.2))
                                  have hn283_1 : ad280.block ≠ gb281 := Kd.own_blk (Kd.R_away HO_7.out (fun _ hk => hk.2))
                                  have hn283_2 : ad280.block ≠ gb281 := Kd.own_blk (Kd.R_away HO_7.out (fun _ hk => hk.2))
                                  have hn283_3 : ad280.block ≠ gb281 := Kd.own_blk (Kd.R_away HO_7.out (fun _ hk => hk.2))
                                  have hn283_4 : ad280.block ≠ gb281 := Kd.own_blk (Kd.R_away HO_7.out (fun _ hk => hk.2))
                                  replace hx283_0 := (cell_far (p := ⟨gb281, 0, none⟩) (by (rw [add_block]; exact hn283_0)) (.int .i64 ((rd_T41 t275 x9_2).f0))).trans hx283_0
                                  replace hx283_1 := (cell_far (p := ⟨gb281, 0, none⟩) (by (rw [add_block]; exact hn283_0)) (.int .i64 ((rd_T41 t275 x9_2).f0))).trans hx283_1
                                  replace hx283_2 := (cell_far (p := ⟨gb281, 0, none⟩) (by (rw [add_block]; exact hn283_0)) (.int .i64 ((rd_T41 t275 x9_2).f0))).trans hx283_2
                                  replace hx283_3 := (cell_far (p := ⟨gb281, 0, none⟩) (by (rw [add_block]; exact hn283_0)) (.int .i64 ((rd_T41 t275 x9_2).f0))).trans hx283_3
                                  replace hx283_4 := (cell_far (p := ⟨gb281, 0, none⟩) (by (rw [add_block]; exact hn283_0)) (.int .i64 ((rd_T41 t275 x9_2).f0))).trans hx283_4
                                  replace hx283_0 := (cell_far (p := ⟨gb281, 1, none⟩) (by (rw [add_block]; exact hn283_1)) (.int .i64 ((rd_T41 t275 x9_2).f1))).trans hx283_0
                                  replace hx283_1 := (cell_far (p := ⟨gb281, 1, none⟩) (by (rw [add_block]; exact hn283_1)) (.int .i64 ((rd_T41 t275 x9_2).f1))).trans hx283_1
                                  replace hx283_2 := (cell_far (p := ⟨gb281, 1, none⟩) (by (rw [add_block]; exact hn283_1)) (.int .i64 ((rd_T41 t275 x9_2).f1))).trans hx283_2
                                  replace hx283_3 := (cell_far (p := ⟨gb281, 1, none⟩) (by (rw [add_block]; exact hn283_1)) (.int .i64 ((rd_T41 t275 x9_2).f1))).trans hx283_3
                                  replace hx283_4 := (cell_far (p := ⟨gb281, 1, none⟩) (by (rw [add_block]; exact hn283_1)) (.int .i64 ((rd_T41 t275 x9_2).f1))).trans hx283_4
                                  replace hx283_0 := (cell_far (p := ⟨gb281, 2, none⟩) (by (rw [add_block]; exact hn283_2)) (.int .i64 ((rd_T41 t275 x9_2).f2))).trans hx283_0
                                  replace hx283_1 := (cell_far (p := ⟨gb281, 2, none⟩) (by (rw [add_block]; exact hn283_2)) (.int .i64 ((rd_T41 t275 x9_2).f2))).trans hx283_1
                                  replace hx283_2 := (cell_far (p := ⟨gb281, 2, none⟩) (by (rw [add_block]; exact hn283_2)) (.int .i64 ((rd_T41 t275 x9_2).f2))).trans hx283_2
                                  replace hx283_3 := (cell_far (p := ⟨gb281, 2, none⟩) (by (rw [add_block]; exact hn283_2)) (.int .i64 ((rd_T41 t275 x9_2).f2))).trans hx283_3
                                  replace hx283_4 := (cell_far (p := ⟨gb281, 2, none⟩) (by (rw [add_block]; exact hn283_2)) (.int .i64 ((rd_T41 t275 x9_2).f2))).trans hx283_4
                                  replace hx283_0 := (cell_far (p := ⟨gb281, 3, none⟩) (by (rw [add_block]; exact hn283_3)) (.int .i64 ((rd_T41 t275 x9_2).f3))).trans hx283_0
                                  replace hx283_1 := (cell_far (p := ⟨gb281, 3, none⟩) (by (rw [add_block]; exact hn283_3)) (.int .i64 ((rd_T41 t275 x9_2).f3))).trans hx283_1
                                  replace hx283_2 := (cell_far (p := ⟨gb281, 3, none⟩) (by (rw [add_block]; exact hn283_3)) (.int .i64 ((rd_T41 t275 x9_2).f3))).trans hx283_2
                                  replace hx283_3 := (cell_far (p := ⟨gb281, 3, none⟩) (by (rw [add_block]; exact hn283_3)) (.int .i64 ((rd_T41 t275 x9_2).f3))).trans hx283_3
                                  replace hx283_4 := (cell_far (p := ⟨gb281, 3, none⟩) (by (rw [add_block]; exact hn283_3)) (.int .i64 ((rd_T41 t275 x9_2).f3))).trans hx283_4
                                  replace hx283_0 := (cell_far (p := ⟨gb281, 4, none⟩) (by (rw [add_block]; exact hn283_4)) (.int .i64 ((rd_T41 t275 x9_2).f4))).trans hx283_0
                                  replace hx283_1 := (cell_far (p := ⟨gb281, 4, none⟩) (by (rw [add_block]; exact hn283_4)) (.int .i64 ((rd_T41 t275 x9_2).f4))).trans hx283_1
                                  replace hx283_2 := (cell_far (p := ⟨gb281, 4, none⟩) (by (rw [add_block]; exact hn283_4)) (.int .i64 ((rd_T41 t275 x9_2).f4))).trans hx283_2
                                  replace hx283_3 := (cell_far (p := ⟨gb281, 4, none⟩) (by (rw [add_block]; exact hn283_4)) (.int .i64 ((rd_T41 t275 x9_2).f4))).trans hx283_3
                                  replace hx283_4 := (cell_far (p := ⟨gb281, 4, none⟩) (by (rw [add_block]; exact hn283_4)) (.int .i64 ((rd_T41 t275 x9_2).f4))).trans hx283_4
                                  clear hn283_0
                                  clear hn283_1
                                  clear hn283_2
                                  clear hn283_3
                                  clear hn283_4
                                  replace p283 := eq_true p283
                                  replace q283 := eq_true q283
                                  go_wp2
                                  repeat (go_quiet (fail); try go_wp2)
                                  go_meet
                                  case rel => exact ⟨_, (decide (((rd_T41 t275 x9_2).f2) < ((rd_T41 t275 (ji29)).f2))), (by rfl), H', ⟨by have := HJ6.out; have := HK2.out; omega⟩, ⟨by (with_reducible repeat (apply Kd.R_drewN)); exact Kd.R_mono (Kd.R_far (p := ⟨gb281, 4, none⟩) (Kd.R_far (p := ⟨gb281, 3, none⟩) (Kd.R_far (p := ⟨gb281, 2, none⟩) (Kd.R_far (p := ⟨gb281, 1, none⟩) (Kd.R_far (p := ⟨gb281, 0, none⟩) (Kd.R_mono HO_7.out (fun k_ hk => (⟨hk, hk.2⟩ : _ ∧ k_ ≠ gb281))) (fun _ hk => hk.2) (.int .i64 ((rd_T41 t275 x9_2).f0))) (fun _ hk => hk.2) (.int .i64 ((rd_T41 t275 x9_2).f1))) (fun _ hk => hk.2) (.int .i64 ((rd_T41 t275 x9_2).f2))) (fun _ hk => hk.2) (.int .i64 ((rd_T41 t275 x9_2).f3))) (fun _ hk => hk.2) (.int .i64 ((rd_T41 t275 x9_2).f4))) (fun _ hk => hk.1.2)⟩, ⟨by (with_reducible repeat (refine blk_drewN ?_ _)); refine blk_put (cs := #[.int .i64 ((rd_T41 t275 x9_2).f0), .int .i64 ((rd_T41 t275 x9_2).f1), .int .i64 ((rd_T41 t275 x9_2).f2), .int .i64 ((rd_T41 t275 x9_2).f3), .int .i64 0]) ?_ 4 _ rfl; (with_reducible repeat (fail)); refine blk_put (cs := #[.int .i64 ((rd_T41 t275 x9_2).f0), .int .i64 ((rd_T41 t275 x9_2).f1), .int .i64 ((rd_T41 t275 x9_2).f2), .int .i64 0, .int .i64 0]) ?_ 3 _ rfl; (with_reducible repeat (fail)); refine blk_put (cs := #[.int .i64 ((rd_T41 t275 x9_2).f0), .int .i64 ((rd_T41 t275 x9_2).f1), .int .i64 0, .int .i64 0, .int .i64 0]) ?_ 2 _ rfl; (with_reducible repeat (fail)); refine blk_put (cs := #[.int .i64 ((rd_T41 t275 x9_2).f0), .int .i64 0, .int .i64 0, .int .i64 0, .int .i64 0]) ?_ 1 _ rfl; (with_reducible repeat (fail)); refine blk_put (cs := #[.int .i64 0, .int .i64 0, .int .i64 0, .int .i64 0, .int .i64 0]) ?_ 0 _ rfl; (with_reducible repeat (fail)); exact BK281.out⟩, ⟨by repeat ((with_reducible first | exact HB.out | apply pw_below_drewN | refine below_set ?_ GE281.out))⟩⟩
                                · rw [if_neg c31] at H
                                  exact absurd H (by simp)
                              · rw [if_neg c30] at H
                                exact absurd H (by simp)
                            · rw [if_neg c28] at H
                              have c28b0 : decide (0 < x9_2) = false := decide_eq_false c28
                              clear c28
                              have H' := Aside0.mk H
                              clear H
                              have hcz33_0 : w19.cell? ⟨gb281, 0, none⟩ = some (.int .i64 0) := (blk_cell BK281.out 0).trans rfl
                              have hcz33_1 : w19.cell? ⟨gb281, 1, none⟩ = some (.int .i64 0) := (blk_cell BK281.out 1).trans rfl
                              have hcz33_2 : w19.cell? ⟨gb281, 2, none⟩ = some (.int .i64 0) := (blk_cell BK281.out 2).trans rfl
                              have hcz33_3 : w19.cell? ⟨gb281, 3, none⟩ = some (.int .i64 0) := (blk_cell BK281.out 3).trans rfl
                              have hcz33_4 : w19.cell? ⟨gb281, 4, none⟩ = some (.int .i64 0) := (blk_cell BK281.out 4).trans rfl
                              have hfz33_0 := blk_frozen BK281.out 0
                              have hfz33_1 := blk_frozen BK281.out 1
                              have hfz33_2 := blk_frozen BK281.out 2
                              have hfz33_3 := blk_frozen BK281.out 3
                              have hfz33_4 := blk_frozen BK281.out 4
                              have p282 : 0 ≤ (x9_2 : Int) := of_decide_eq_true (by (with_reducible assumption))
                              have q282 : x9_2 < (l0.length : Int) := of_decide_eq_true (by (with_reducible assumption))
                              obtain ⟨ad282, e282, hx282_0, hx282_1, hx282_2, hx282_3⟩ := at_T43 HR0.out x9_2 p282 q282
                              cases e282
                              have hn282_0 : ad282.block ≠ gb281 := Nat.ne_of_lt (Nat.lt_of_lt_of_le (by have := World.block_lt_of_cell? _ _ hx282_0; rwa [add_block] at this) GW281.out)
                              have hn282_1 : ad282.block ≠ gb281 := Nat.ne_of_lt (Nat.lt_of_lt_of_le (by have := World.block_lt_of_cell? _ _ hx282_0; rwa [add_block] at this) GW281.out)
                              have hn282_2 : ad282.block ≠ gb281 := Nat.ne_of_lt (Nat.lt_of_lt_of_le (by have := World.block_lt_of_cell? _ _ hx282_0; rwa [add_block] at this) GW281.out)
                              have hn282_3 : ad282.block ≠ gb281 := Nat.ne_of_lt (Nat.lt_of_lt_of_le (by have := World.block_lt_of_cell? _ _ hx282_0; rwa [add_block] at this) GW281.out)
                              have hn282_4 : ad282.block ≠ gb281 := Nat.ne_of_lt (Nat.lt_of_lt_of_le (by have := World.block_lt_of_cell? _ _ hx282_0; rwa [add_block] at this) GW281.out)
                              replace hx282_0 := (HB.out.cell (World.block_lt_of_cell? w _ hx282_0)).trans hx282_0
                              replace hx282_1 := (HB.out.cell (World.block_lt_of_cell? w _ hx282_1)).trans hx282_1
                              replace hx282_2 := (HB.out.cell (World.block_lt_of_cell? w _ hx282_2)).trans hx282_2
                              replace hx282_3 := (HB.out.cell (World.block_lt_of_cell? w _ hx282_3)).trans hx282_3
                              replace hx282_0 := (cell_far (p := ⟨gb281, 0, none⟩) (by (rw [add_block]; exact hn282_0)) (.int .i64 ((rd_T41 t275 x9_2).f0))).trans hx282_0
                              replace hx282_1 := (cell_far (p := ⟨gb281, 0, none⟩) (by (rw [add_block]; exact hn282_0)) (.int .i64 ((rd_T41 t275 x9_2).f0))).trans hx282_1
                              replace hx282_2 := (cell_far (p := ⟨gb281, 0, none⟩) (by (rw [add_block]; exact hn282_0)) (.int .i64 ((rd_T41 t275 x9_2).f0))).trans hx282_2
                              replace hx282_3 := (cell_far (p := ⟨gb281, 0, none⟩) (by (rw [add_block]; exact hn282_0)) (.int .i64 ((rd_T41 t275 x9_2).f0))).trans hx282_3
                              replace hx282_0 := (cell_far (p := ⟨gb281, 1, none⟩) (by (rw [add_block]; exact hn282_1)) (.int .i64 ((rd_T41 t275 x9_2).f1))).trans hx282_0
                              replace hx282_1 := (cell_far (p := ⟨gb281, 1, none⟩) (by (rw [add_block]; exact hn282_1)) (.int .i64 ((rd_T41 t275 x9_2).f1))).trans hx282_1
                              replace hx282_2 := (cell_far (p := ⟨gb281, 1, none⟩) (by (rw [add_block]; exact hn282_1)) (.int .i64 ((rd_T41 t275 x9_2).f1))).trans hx282_2
                              replace hx282_3 := (cell_far (p := ⟨gb281, 1, none⟩) (by (rw [add_block]; exact hn282_1)) (.int .i64 ((rd_T41 t275 x9_2).f1))).trans hx282_3
                              replace hx282_0 := (cell_far (p := ⟨gb281, 2, none⟩) (by (rw [add_block]; exact hn282_2)) (.int .i64 ((rd_T41 t275 x9_2).f2))).trans hx282_0
                              replace hx282_1 := (cell_far (p := ⟨gb281, 2, none⟩) (by (rw [add_block]; exact hn282_2)) (.int .i64 ((rd_T41 t275 x9_2).f2))).trans hx282_1
                              replace hx282_2 := (cell_far (p := ⟨gb281, 2, none⟩) (by (rw [add_block]; exact hn282_2)) (.int .i64 ((rd_T41 t275 x9_2).f2))).trans hx282_2
                              replace hx282_3 := (cell_far (p := ⟨gb281, 2, none⟩) (by (rw [add_block]; exact hn282_2)) (.int .i64 ((rd_T41 t275 x9_2).f2))).trans hx282_3
                              replace hx282_0 := (cell_far (p := ⟨gb281, 3, none⟩) (by (rw [add_block]; exact hn282_3)) (.int .i64 ((rd_T41 t275 x9_2).f3))).trans hx282_0
                              replace hx282_1 := (cell_far (p := ⟨gb281, 3, none⟩) (by (rw [add_block]; exact hn282_3)) (.int .i64 ((rd_T41 t275 x9_2).f3))).trans hx282_1
                              replace hx282_2 := (cell_far (p := ⟨gb281, 3, none⟩) (by (rw [add_block]; exact hn282_3)) (.int .i64 ((rd_T41 t275 x9_2).f3))).trans hx282_2
                              replace hx282_3 := (cell_far (p := ⟨gb281, 3, none⟩) (by (rw [add_block]; exact hn282_3)) (.int .i64 ((rd_T41 t275 x9_2).f3))).trans hx282_3
                              replace hx282_0 := (cell_far (p := ⟨gb281, 4, none⟩) (by (rw [add_block]; exact hn282_4)) (.int .i64 ((rd_T41 t275 x9_2).f4))).trans hx282_0
                              replace hx282_1 := (cell_far (p := ⟨gb281, 4, none⟩) (by (rw [add_block]; exact hn282_4)) (.int .i64 ((rd_T41 t275 x9_2).f4))).trans hx282_1
                              replace hx282_2 := (cell_far (p := ⟨gb281, 4, none⟩) (by (rw [add_block]; exact hn282_4)) (.int .i64 ((rd_T41 t275 x9_2).f4))).trans hx282_2
                              replace hx282_3 := (cell_far (p := ⟨gb281, 4, none⟩) (by (rw [add_block]; exact hn282_4)) (.int .i64 ((rd_T41 t275 x9_2).f4))).trans hx282_3
                              (try have hy282_0 := fun (n_ : Nat) => (show (((((((w19.drewN n_).setCell ⟨gb281, 0, none⟩ (.int .i64 ((rd_T41 t275 x9_2).f0))).setCell ⟨gb281, 1, none⟩ (.int .i64 ((rd_T41 t275 x9_2).f1))).setCell ⟨gb281, 2, none⟩ (.int .i64 ((rd_T41 t275 x9_2).f2))).setCell ⟨gb281, 3, none⟩ (.int .i64 ((rd_T41 t275 x9_2).f3))).setCell ⟨gb281, 4, none⟩ (.int .i64 ((rd_T41 t275 x9_2).f4)))).cell? _ = some _ from hx282_0))
                              (try have hy282_1 := fun (n_ : Nat) => (show (((((((w19.drewN n_).setCell ⟨gb281, 0, none⟩ (.int .i64 ((rd_T41 t275 x9_2).f0))).setCell ⟨gb281, 1, none⟩ (.int .i64 ((rd_T41 t275 x9_2).f1))).setCell ⟨gb281, 2, none⟩ (.int .i64 ((rd_T41 t275 x9_2).f2))).setCell ⟨gb281, 3, none⟩ (.int .i64 ((rd_T41 t275 x9_2).f3))).setCell ⟨gb281, 4, none⟩ (.int .i64 ((rd_T41 t275 x9_2).f4)))).cell? _ = some _ from hx282_1))
                              (try have hy282_2 := fun (n_ : Nat) => (show (((((((w19.drewN n_).setCell ⟨gb281, 0, none⟩ (.int .i64 ((rd_T41 t275 x9_2).f0))).setCell ⟨gb281, 1, none⟩ (.int .i64 ((rd_T41 t275 x9_2).f1))).setCell ⟨gb281, 2, none⟩ (.int .i64 ((rd_T41 t275 x9_2).f2))).setCell ⟨gb281, 3, none⟩ (.int .i64 ((rd_T41 t275 x9_2).f3))).setCell ⟨gb281, 4, none⟩ (.int .i64 ((rd_T41 t275 x9_2).f4)))).cell? _ = some _ from hx282_2))
                              (try have hy282_3 := fun (n_ : Nat) => (show (((((((w19.drewN n_).setCell ⟨gb281, 0, none⟩ (.int .i64 ((rd_T41 t275 x9_2).f0))).setCell ⟨gb281, 1, none⟩ (.int .i64 ((rd_T41 t275 x9_2).f1))).setCell ⟨gb281, 2, none⟩ (.int .i64 ((rd_T41 t275 x9_2).f2))).setCell ⟨gb281, 3, none⟩ (.int .i64 ((rd_T41 t275 x9_2).f3))).setCell ⟨gb281, 4, none⟩ (.int .i64 ((rd_T41 t275 x9_2).f4)))).cell? _ = some _ from hx282_3))
                              clear hn282_0
                              clear hn282_1
                              clear hn282_2
                              clear hn282_3
                              clear hn282_4
                              replace p282 := eq_true p282
                              replace q282 := eq_true q282
                              go_wp2
                              repeat (go_quiet (fail); try go_wp2)
                              go_meet
                              case rel => exact ⟨_, (false), (by rfl), H', ⟨by have := HJ6.out; have := HK2.out; omega⟩, ⟨by (with_reducible repeat (apply Kd.R_drewN)); exact Kd.R_mono (Kd.R_far (p := ⟨gb281, 4, none⟩) (Kd.R_far (p := ⟨gb281, 3, none⟩) (Kd.R_far (p := ⟨gb281, 2, none⟩) (Kd.R_far (p := ⟨gb281, 1, none⟩) (Kd.R_far (p := ⟨gb281, 0, none⟩) (Kd.R_mono HO_7.out (fun k_ hk => (⟨hk, hk.2⟩ : _ ∧ k_ ≠ gb281))) (fun _ hk => hk.2) (.int .i64 ((rd_T41 t275 x9_2).f0))) (fun _ hk => hk.2) (.int .i64 ((rd_T41 t275 x9_2).f1))) (fun _ hk => hk.2) (.int .i64 ((rd_T41 t275 x9_2).f2))) (fun _ hk => hk.2) (.int .i64 ((rd_T41 t275 x9_2).f3))) (fun _ hk => hk.2) (.int .i64 ((rd_T41 t275 x9_2).f4))) (fun _ hk => hk.1.2)⟩, ⟨by (with_reducible repeat (refine blk_drewN ?_ _)); refine blk_put (cs := #[.int .i64 ((rd_T41 t275 x9_2).f0), .int .i64 ((rd_T41 t275 x9_2).f1), .int .i64 ((rd_T41 t275 x9_2).f2), .int .i64 ((rd_T41 t275 x9_2).f3), .int .i64 0]) ?_ 4 _ rfl; (with_reducible repeat (fail)); refine blk_put (cs := #[.int .i64 ((rd_T41 t275 x9_2).f0), .int .i64 ((rd_T41 t275 x9_2).f1), .int .i64 ((rd_T41 t275 x9_2).f2), .int .i64 0, .int .i64 0]) ?_ 3 _ rfl; (with_reducible repeat (fail)); refine blk_put (cs := #[.int .i64 ((rd_T41 t275 x9_2).f0), .int .i64 ((rd_T41 t275 x9_2).f1), .int .i64 0, .int .i64 0, .int .i64 0]) ?_ 2 _ rfl; (with_reducible repeat (fail)); refine blk_put (cs := #[.int .i64 ((rd_T41 t275 x9_2).f0), .int .i64 0, .int .i64 0, .int .i64 0, .int .i64 0]) ?_ 1 _ rfl; (with_reducible repeat (fail)); refine blk_put (cs := #[.int .i64 0, .int .i64 0, .int .i64 0, .int .i64 0, .int .i64 0]) ?_ 0 _ rfl; (with_reducible repeat (fail)); exact BK281.out⟩, ⟨by repeat ((with_reducible first | exact HB.out | apply pw_below_drewN | refine below_set ?_ GE281.out))⟩⟩
                        · rw [if_neg c25] at H
                          exact absurd H (by simp)
                  case rest =>
                    clear HC17
                    try clear c15b0
                    try clear c16b0
                    try clear hcz20_0
                    try clear hcz20_1
                    try clear hcz20_2
                    try clear hcz20_3
                    try clear hcz20_4
                    try clear hfz20_0
                    try clear hfz20_1
                    try clear hfz20_2
                    try clear hfz20_3
                    try clear hfz20_4
                    try clear hx280_0
                    try clear hx280_1
                    try clear hx280_2
                    try clear hx280_3
                    try clear hx280_4
                    try clear p280
                    try clear q280
                    obtain ⟨kq, x83_16, rfl, HA, HJ16, HO_7, BK281, HB⟩ := hcut
                    cases kq with
                    | zero => exact absurd HA.out (by simp [formelaw20_FloatsApart.j2])
                    | succ kj16 =>
                      have H := HA.out
                      clear HA
                      simp only [formelaw20_FloatsApart.j2] at H
                      by_cases c34 : x83_16 = true
                      · subst c34
                        have H1 : (some false) = some r := by rw [if_pos rfl] at H; exact H
                        clear H
                        have H := H1
                        clear H1
                        obtain rfl := Option.some.inj H
                        go_wp2
                        repeat (go_quiet (fail); try go_wp2)
                        go_ret
                        exact ⟨by rfl, by repeat ((with_reducible exact HB.out))⟩
                      · replace c34 := Bool.eq_false_iff.mpr c34
                        subst c34
                        have H1 : (formelaw20_FloatsApart.l1 kj16 l0 t274 (wrap64 (a1)) t275 x9_2 0 ((rd_T41 t275 x9_2).f0) ((rd_T41 t275 x9_2).f1) ((rd_T41 t275 x9_2).f2) ((rd_T41 t275 x9_2).f3) ((rd_T41 t275 x9_2).f4)) = some r := by rw [if_neg (show ¬ (false = true) by decide)] at H; exact H
                        clear H
                        have H := H1
                        clear H1
                        have H' := Aside0.mk H
                        clear H
                        go_wp2
                        repeat (go_quiet (fail); try go_wp2)
                        go_loopg [11] kj16 (fun kq v11 w' => ∃ (x11_4 : Int), v11 = .int .i64 x11_4 ∧ Aside0 (formelaw20_FloatsApart.l1 kq l0 t274 (wrap64 (a1)) t275 x9_2 x11_4 ((rd_T41 t275 x9_2).f0) ((rd_T41 t275 x9_2).f1) ((rd_T41 t275 x9_2).f2) ((rd_T41 t275 x9_2).f3) ((rd_T41 t275 x9_2).f4) = some r) ∧ Aside0 (kq ≤ kj16) ∧ Aside0 (Kd.R k41 41 w' w.heap.size (fun k_ => k_ ≠ gb281) (.slice (some ad280) t275.length co18) t275) ∧ Aside0 (w'.heap[gb281]? = some (.cells #[.int .i64 ((rd_T41 t275 x9_2).f0), .int .i64 ((rd_T41 t275 x9_2).f1), .int .i64 ((rd_T41 t275 x9_2).f2), .int .i64 ((rd_T41 t275 x9_2).f3), .int .i64 ((rd_T41 t275 x9_2).f4)] 41 (0, 0))) ∧ Aside0 (Below w.heap.size w w'))
                        case atStart => exact ⟨(0), (by rfl), H', ⟨Nat.le_refl _⟩, ⟨by (with_reducible repeat (fail)); exact HO_7.out⟩, ⟨by (with_reducible repeat (fail)); exact BK281.out⟩, ⟨by repeat ((with_reducible exact HB.out))⟩⟩
                        case round =>
                          clear H'
                          obtain ⟨x11_4, rfl, HA, HK4, HO_7, BK281, HB⟩ := hrel
                          cases gk with
                          | zero => exact absurd HA.out (by simp [formelaw20_FloatsApart.l1])
                          | succ k4 =>
                            have H := HA.out
                            clear HA
                            simp only [formelaw20_FloatsApart.l1] at H
                            by_cases c35 : x11_4 < x9_2
                            · rw [if_pos c35] at H
                              have c35b0 : decide (x11_4 < x9_2) = true := decide_eq_true c35
                              clear c35
                              by_cases c36 : 0 ≤ x11_4
                              · rw [if_pos c36] at H
                                have c36b0 : decide (0 ≤ x11_4) = true := decide_eq_true c36
                                clear c36
                                by_cases c37 : x11_4 < (t275.length : Int)
                                · rw [if_pos c37] at H
                                  have c37b0 : decide (x11_4 < (t275.length : Int)) = true := decide_eq_true c37
                                  clear c37
                                  obtain ⟨ji38, hji38⟩ : ∃ j_ : Int, (mx ((rd_T41 t275 x9_2).f1) ((rd_T41 t275 x11_4).f1)) = j_ := ⟨_, rfl⟩
                                  replace H : (if (ji38) < (mn (wrap64 (((rd_T41 t275 x9_2).f1) + ((rd_T41 t275 x9_2).f3))) (wrap64 (((rd_T41 t275 x11_4).f1) + ((rd_T41 t275 x11_4).f3)))) then (if (mx ((rd_T41 t275 x9_2).f2) ((rd_T41 t275 x11_4).f2)) < (mn (wrap64 (((rd_T41 t275 x9_2).f2) + ((rd_T41 t275 x9_2).f4))) (wrap64 (((rd_T41 t275 x11_4).f2) + ((rd_T41 t275 x11_4).f4)))) then (some false) else (formelaw20_FloatsApart.l1 k4 l0 t274 (wrap64 (a1)) t275 x9_2 (wrap64 (x11_4 + 1)) ((rd_T41 t275 x9_2).f0) ((rd_T41 t275 x9_2).f1) ((rd_T41 t275 x9_2).f2) ((rd_T41 t275 x9_2).f3) ((rd_T41 t275 x9_2).f4))) else (formelaw20_FloatsApart.l1 k4 l0 t274 (wrap64 (a1)) t275 x9_2 (wrap64 (x11_4 + 1)) ((rd_T41 t275 x9_2).f0) ((rd_T41 t275 x9_2).f1) ((rd_T41 t275 x9_2).f2) ((rd_T41 t275 x9_2).f3) ((rd_T41 t275 x9_2).f4))) = some r := by (rw [hji38] at H; exact H)
                                  have hji38_ : (if ((rd_T41 t275 x9_2).f1) < ((rd_T41 t275 x11_4).f1) then ((rd_T41 t275 x11_4).f1) else ((rd_T41 t275 x9_2).f1)) = ji38 := hji38
                                  obtain ⟨ji39, hji39⟩ : ∃ j_ : Int, (mn (wrap64 (((rd_T41 t275 x9_2).f1) + ((rd_T41 t275 x9_2).f3))) (wrap64 (((rd_T41 t275 x11_4).f1) + ((rd_T41 t275 x11_4).f3)))) = j_ := ⟨_, rfl⟩
                                  replace H : (if (ji38) < (ji39) then (if (mx ((rd_T41 t275 x9_2).f2) ((rd_T41 t275 x11_4).f2)) < (mn (wrap64 (((rd_T41 t275 x9_2).f2) + ((rd_T41 t275 x9_2).f4))) (wrap64 (((rd_T41 t275 x11_4).f2) + ((rd_T41 t275 x11_4).f4)))) then (some false) else (formelaw20_FloatsApart.l1 k4 l0 t274 (wrap64 (a1)) t275 x9_2 (wrap64 (x11_4 + 1)) ((rd_T41 t275 x9_2).f0) ((rd_T41 t275 x9_2).f1) ((rd_T41 t275 x9_2).f2) ((rd_T41 t275 x9_2).f3) ((rd_T41 t275 x9_2).f4))) else (formelaw20_FloatsApart.l1 k4 l0 t274 (wrap64 (a1)) t275 x9_2 (wrap64 (x11_4 + 1)) ((rd_T41 t275 x9_2).f0) ((rd_T41 t275 x9_2).f1) ((rd_T41 t275 x9_2).f2) ((rd_T41 t275 x9_2).f3) ((rd_T41 t275 x9_2).f4))) = some r := by (rw [hji39] at H; exact H)
                                  have hji39_ : (if (wrap64 (((rd_T41 t275 x11_4).f1) + ((rd_T41 t275 x11_4).f3))) < (wrap64 (((rd_T41 t275 x9_2).f1) + ((rd_T41 t275 x9_2).f3))) then (wrap64 (((rd_T41 t275 x11_4).f1) + ((rd_T41 t275 x11_4).f3))) else (wrap64 (((rd_T41 t275 x9_2).f1) + ((rd_T41 t275 x9_2).f3)))) = ji39 := hji39
                                  obtain ⟨ji40, hji40⟩ : ∃ j_ : Int, (mx ((rd_T41 t275 x9_2).f2) ((rd_T41 t275 x11_4).f2)) = j_ := ⟨_, rfl⟩
                                  replace H : (if (ji38) < (ji39) then (if (ji40) < (mn (wrap64 (((rd_T41 t275 x9_2).f2) + ((rd_T41 t275 x9_2).f4))) (wrap64 (((rd_T41 t275 x11_4).f2) + ((rd_T41 t275 x11_4).f4)))) then (some false) else (formelaw20_FloatsApart.l1 k4 l0 t274 (wrap64 (a1)) t275 x9_2 (wrap64 (x11_4 + 1)) ((rd_T41 t275 x9_2).f0) ((rd_T41 t275 x9_2).f1) ((rd_T41 t275 x9_2).f2) ((rd_T41 t275 x9_2).f3) ((rd_T41 t275 x9_2).f4))) else (formelaw20_FloatsApart.l1 k4 l0 t274 (wrap64 (a1)) t275 x9_2 (wrap64 (x11_4 + 1)) ((rd_T41 t275 x9_2).f0) ((rd_T41 t275 x9_2).f1) ((rd_T41 t275 x9_2).f2) ((rd_T41 t275 x9_2).f3) ((rd_T41 t275 x9_2).f4))) = some r := by (rw [hji40] at H; exact H)
                                  have hji40_ : (if ((rd_T41 t275 x9_2).f2) < ((rd_T41 t275 x11_4).f2) then ((rd_T41 t275 x11_4).f2) else ((rd_T41 t275 x9_2).f2)) = ji40 := hji40
                                  obtain ⟨ji41, hji41⟩ : ∃ j_ : Int, (mn (wrap64 (((rd_T41 t275 x9_2).f2) + ((rd_T41 t275 x9_2).f4))) (wrap64 (((rd_T41 t275 x11_4).f2) + ((rd_T41 t275 x11_4).f4)))) = j_ := ⟨_, rfl⟩
                                  replace H : (if (ji38) < (ji39) then (if (ji40) < (ji41) then (some false) else (formelaw20_FloatsApart.l1 k4 l0 t274 (wrap64 (a1)) t275 x9_2 (wrap64 (x11_4 + 1)) ((rd_T41 t275 x9_2).f0) ((rd_T41 t275 x9_2).f1) ((rd_T41 t275 x9_2).f2) ((rd_T41 t275 x9_2).f3) ((rd_T41 t275 x9_2).f4))) else (formelaw20_FloatsApart.l1 k4 l0 t274 (wrap64 (a1)) t275 x9_2 (wrap64 (x11_4 + 1)) ((rd_T41 t275 x9_2).f0) ((rd_T41 t275 x9_2).f1) ((rd_T41 t275 x9_2).f2) ((rd_T41 t275 x9_2).f3) ((rd_T41 t275 x9_2).f4))) = some r := by (rw [hji41] at H; exact H)
                                  have hji41_ : (if (wrap64 (((rd_T41 t275 x11_4).f2) + ((rd_T41 t275 x11_4).f4))) < (wrap64 (((rd_T41 t275 x9_2).f2) + ((rd_T41 t275 x9_2).f4))) then (wrap64 (((rd_T41 t275 x11_4).f2) + ((rd_T41 t275 x11_4).f4))) else (wrap64 (((rd_T41 t275 x9_2).f2) + ((rd_T41 t275 x9_2).f4)))) = ji41 := hji41
                                  by_cases c42 : (ji38) < (ji39)
                                  · rw [if_pos c42] at H
                                    have c42b0 : decide ((ji38) < (ji39)) = true := decide_eq_true c42
                                    clear c42
                                    by_cases c43 : (ji40) < (ji41)
                                    · rw [if_pos c43] at H
                                      have c43b0 : decide ((ji40) < (ji41)) = true := decide_eq_true c43
                                      clear c43
                                      obtain rfl := Option.some.inj H
                                      have p284 : 0 ≤ (x11_4 : Int) := of_decide_eq_true (by (with_reducible assumption))
                                      have q284 : x11_4 < (t275.length : Int) := of_decide_eq_true (by (with_reducible assumption))
                                      obtain ⟨ad284, e284, hx284_0, hx284_1, hx284_2, hx284_3, hx284_4⟩ := at_T41 (Kd.R_reads' HO_7.out).2.2 x11_4 p284 q284
                                      obtain rfl : ad280 = ad284 := (by injection e284)
                                      replace p284 := eq_true p284
                                      replace q284 := eq_true q284
                                      go_wp2_with (((with_reducible refine gate_dst (N := 12) rfl ?_); refine box_event ?hg (N := 12) ?hd (cs := #[.int .i64 0, .int .i64 0, .int .i64 0, .int .i64 0, .int .i64 0]) (t := 41) ?hr ?_; (case hd => rfl); (case hg => rfl); (case hr => (go_simp; done)); intro gb285 hg w44 hbox hb; have n0_ := Aside0.mk (Kd.R_below (Kd.R_elderB (by (with_reducible repeat (fail)); exact HO_7.out) gb285 (Nat.le_of_eq hg.symm)) hb); have n1_ := Aside0.mk (blk_below (g := gb281) (o := .cells #[.int .i64 ((rd_T41 t275 x9_2).f0), .int .i64 ((rd_T41 t275 x9_2).f1), .int .i64 ((rd_T41 t275 x9_2).f2), .int .i64 ((rd_T41 t275 x9_2).f3), .int .i64 ((rd_T41 t275 x9_2).f4)] 41 (0, 0)) (by (with_reducible repeat (fail)); exact BK281.out) hb); have n2_ := Aside0.mk (below_step (by repeat ((with_reducible exact HB.out))) hb); have n3_ := Aside0.mk (hbox); have n4_ := Aside0.mk ((by rw [hg]; exact (below_size (by repeat ((with_reducible exact HB.out)))) : w.heap.size ≤ gb285)); have n5_ := Aside0.mk ((by rw [hg]; exact (below_size (by repeat ((with_reducible exact HB.out)))) : w.heap.size ≤ gb285)); have n6_ := Aside0.mk ((by rw [hg]; exact Nat.ne_of_lt (blk_lt (g := gb281) (o := .cells #[.int .i64 ((rd_T41 t275 x9_2).f0), .int .i64 ((rd_T41 t275 x9_2).f1), .int .i64 ((rd_T41 t275 x9_2).f2), .int .i64 ((rd_T41 t275 x9_2).f3), .int .i64 ((rd_T41 t275 x9_2).f4)] 41 (0, 0)) (by (with_reducible repeat (fail)); exact BK281.out)) : gb281 ≠ gb285)); have n7_ := Aside0.mk ((by rw [hg]; exact Nat.ne_of_gt (blk_lt (g := gb281) (o := .cells #[.int .i64 ((rd_T41 t275 x9_2).f0), .int .i64 ((rd_T41 t275 x9_2).f1), .int .i64 ((rd_T41 t275 x9_2).f2), .int .i64 ((rd_T41 t275 x9_2).f3), .int .i64 ((rd_T41 t275 x9_2).f4)] 41 (0, 0)) (by (with_reducible repeat (fail)); exact BK281.out)) : gb285 ≠ gb281)); clear HO_7; clear BK281; clear HB; have HO_7 := n0_; have BK281 := n1_; have HB := n2_; have BK285 := n3_; have GW285 := n4_; have GE285 := n5_; have NB281_285 := n6_; have NB285_281 := n7_; clear n0_ n1_ n2_ n3_ n4_ n5_ n6_ n7_; clear hb hbox hg; have hnb45 := NB285_281.out; have hnc45 := NB281_285.out; have hcz46_0 : w44.cell? ⟨gb285, 0, none⟩ = some (.int .i64 0) := (blk_cell BK285.out 0).trans rfl; have hcz46_1 : w44.cell? ⟨gb285, 1, none⟩ = some (.int .i64 0) := (blk_cell BK285.out 1).trans rfl; have hcz46_2 : w44.cell? ⟨gb285, 2, none⟩ = some (.int .i64 0) := (blk_cell BK285.out 2).trans rfl; have hcz46_3 : w44.cell? ⟨gb285, 3, none⟩ = some (.int .i64 0) := (blk_cell BK285.out 3).trans rfl; have hcz46_4 : w44.cell? ⟨gb285, 4, none⟩ = some (.int .i64 0) := (blk_cell BK285.out 4).trans rfl; have hfz46_0 := blk_frozen BK285.out 0; have hfz46_1 := blk_frozen BK285.out 1; have hfz46_2 := blk_frozen BK285.out 2; have hfz46_3 := blk_frozen BK285.out 3; have hfz46_4 := blk_frozen BK285.out 4; have hcz47_0 : w44.cell? ⟨gb281, 0, none⟩ = some (.int .i64 ((rd_T41 t275 x9_2).f0)) := (blk_cell BK281.out 0).trans rfl; have hcz47_1 : w44.cell? ⟨gb281, 1, none⟩ = some (.int .i64 ((rd_T41 t275 x9_2).f1)) := (blk_cell BK281.out 1).trans rfl; have hcz47_2 : w44.cell? ⟨gb281, 2, none⟩ = some (.int .i64 ((rd_T41 t275 x9_2).f2)) := (blk_cell BK281.out 2).trans rfl; have hcz47_3 : w44.cell? ⟨gb281, 3, none⟩ = some (.int .i64 ((rd_T41 t275 x9_2).f3)) := (blk_cell BK281.out 3).trans rfl; have hcz47_4 : w44.cell? ⟨gb281, 4, none⟩ = some (.int .i64 ((rd_T41 t275 x9_2).f4)) := (blk_cell BK281.out 4).trans rfl; have hfz47_0 := blk_frozen BK281.out 0; have hfz47_1 := blk_frozen BK281.out 1; have hfz47_2 := blk_frozen BK281.out 2; have hfz47_3 := blk_frozen BK281.out 3; have hfz47_4 := blk_frozen BK281.out 4))
                                      repeat (go_quiet (fail); try go_wp2_with (fail))
                                      go_ret
                                      exact ⟨by rfl, by repeat ((with_reducible first | exact HB.out | refine below_set ?_ GE285.out))⟩
                                    · rw [if_neg c43] at H
                                      have c43b0 : decide ((ji40) < (ji41)) = false := decide_eq_false c43
                                      clear c43
                                      have H' := Aside0.mk H
                                      clear H
                                      have p284 : 0 ≤ (x11_4 : Int) := of_decide_eq_true (by (with_reducible assumption))
                                      have q284 : x11_4 < (t275.length : Int) := of_decide_eq_true (by (with_reducible assumption))
                                      obtain ⟨ad284, e284, hx284_0, hx284_1, hx284_2, hx284_3, hx284_4⟩ := at_T41 (Kd.R_reads' HO_7.out).2.2 x11_4 p284 q284
                                      obtain rfl : ad280 = ad284 := (by injection e284)
                                      replace p284 := eq_true p284
                                      replace q284 := eq_true q284
                                      go_wp2_with (((with_reducible refine gate_dst (N := 12) rfl ?_); refine box_event ?hg (N := 12) ?hd (cs := #[.int .i64 0, .int .i64 0, .int .i64 0, .int .i64 0, .int .i64 0]) (t := 41) ?hr ?_; (case hd => rfl); (case hg => rfl); (case hr => (go_simp; done)); intro gb285 hg w48 hbox hb; have n0_ := Aside0.mk (Kd.R_below (Kd.R_elderB (by (with_reducible repeat (fail)); exact HO_7.out) gb285 (Nat.le_of_eq hg.symm)) hb); have n1_ := Aside0.mk (blk_below (g := gb281) (o := .cells #[.int .i64 ((rd_T41 t275 x9_2).f0), .int .i64 ((rd_T41 t275 x9_2).f1), .int .i64 ((rd_T41 t275 x9_2).f2), .int .i64 ((rd_T41 t275 x9_2).f3), .int .i64 ((rd_T41 t275 x9_2).f4)] 41 (0, 0)) (by (with_reducible repeat (fail)); exact BK281.out) hb); have n2_ := Aside0.mk (below_step (by repeat ((with_reducible exact HB.out))) hb); have n3_ := Aside0.mk (hbox); have n4_ := Aside0.mk ((by rw [hg]; exact (below_size (by repeat ((with_reducible exact HB.out)))) : w.heap.size ≤ gb285)); have n5_ := Aside0.mk ((by rw [hg]; exact (below_size (by repeat ((with_reducible exact HB.out)))) : w.heap.size ≤ gb285)); have n6_ := Aside0.mk ((by rw [hg]; exact Nat.ne_of_lt (blk_lt (g := gb281) (o := .cells #[.int .i64 ((rd_T41 t275 x9_2).f0), .int .i64 ((rd_T41 t275 x9_2).f1), .int .i64 ((rd_T41 t275 x9_2).f2), .int .i64 ((rd_T41 t275 x9_2).f3), .int .i64 ((rd_T41 t275 x9_2).f4)] 41 (0, 0)) (by (with_reducible repeat (fail)); exact BK281.out)) : gb281 ≠ gb285)); have n7_ := Aside0.mk ((by rw [hg]; exact Nat.ne_of_gt (blk_lt (g := gb281) (o := .cells #[.int .i64 ((rd_T41 t275 x9_2).f0), .int .i64 ((rd_T41 t275 x9_2).f1), .int .i64 ((rd_T41 t275 x9_2).f2), .int .i64 ((rd_T41 t275 x9_2).f3), .int .i64 ((rd_T41 t275 x9_2).f4)] 41 (0, 0)) (by (with_reducible repeat (fail)); exact BK281.out)) : gb285 ≠ gb281)); clear HO_7; clear BK281; clear HB; have HO_7 := n0_; have BK281 := n1_; have HB := n2_; have BK285 := n3_; have GW285 := n4_; have GE285 := n5_; have NB281_285 := n6_; have NB285_281 := n7_; clear n0_ n1_ n2_ n3_ n4_ n5_ n6_ n7_; clear hb hbox hg; have hnb49 := NB285_281.out; have hnc49 := NB281_285.out; have hcz50_0 : w48.cell? ⟨gb285, 0, none⟩ = some (.int .i64 0) := (blk_cell BK285.out 0).trans rfl; have hcz50_1 : w48.cell? ⟨gb285, 1, none⟩ = some (.int .i64 0) := (blk_cell BK285.out 1).trans rfl; have hcz50_2 : w48.cell? ⟨gb285, 2, none⟩ = some (.int .i64 0) := (blk_cell BK285.out 2).trans rfl; have hcz50_3 : w48.cell? ⟨gb285, 3, none⟩ = some (.int .i64 0) := (blk_cell BK285.out 3).trans rfl; have hcz50_4 : w48.cell? ⟨gb285, 4, none⟩ = some (.int .i64 0) := (blk_cell BK285.out 4).trans rfl; have hfz50_0 := blk_frozen BK285.out 0; have hfz50_1 := blk_frozen BK285.out 1; have hfz50_2 := blk_frozen BK285.out 2; have hfz50_3 := blk_frozen BK285.out 3; have hfz50_4 := blk_frozen BK285.out 4; have hcz51_0 : w48.cell? ⟨gb281, 0, none⟩ = some (.int .i64 ((rd_T41 t275 x9_2).f0)) := (blk_cell BK281.out 0).trans rfl; have hcz51_1 : w48.cell? ⟨gb281, 1, none⟩ = some (.int .i64 ((rd_T41 t275 x9_2).f1)) := (blk_cell BK281.out 1).trans rfl; have hcz51_2 : w48.cell? ⟨gb281, 2, none⟩ = some (.int .i64 ((rd_T41 t275 x9_2).f2)) := (blk_cell BK281.out 2).trans rfl; have hcz51_3 : w48.cell? ⟨gb281, 3, none⟩ = some (.int .i64 ((rd_T41 t275 x9_2).f3)) := (blk_cell BK281.out 3).trans rfl; have hcz51_4 : w48.cell? ⟨gb281, 4, none⟩ = some (.int .i64 ((rd_T41 t275 x9_2).f4)) := (blk_cell BK281.out 4).trans rfl; have hfz51_0 := blk_frozen BK281.out 0; have hfz51_1 := blk_frozen BK281.out 1; have hfz51_2 := blk_frozen BK281.out 2; have hfz51_3 := blk_frozen BK281.out 3; have hfz51_4 := blk_frozen BK281.out 4))
                                      repeat (go_quiet (fail); try go_wp2_with (fail))
                                      go_roundg k4
                                      case measure => have := HJ6.out; have := HK2.out; have := HJ16.out; have := HK4.out; omega
                                      case rel => exact ⟨(wrap64 (x11_4 + 1)), (by rfl), H', ⟨by have := HJ6.out; have := HK2.out; have := HJ16.out; have := HK4.out; omega⟩, ⟨by (with_reducible repeat (fail)); exact Kd.R_mono (Kd.R_far (p := ⟨gb285, 4, none⟩) (Kd.R_far (p := ⟨gb285, 3, none⟩) (Kd.R_far (p := ⟨gb285, 2, none⟩) (Kd.R_far (p := ⟨gb285, 1, none⟩) (Kd.R_far (p := ⟨gb285, 0, none⟩) (Kd.R_mono HO_7.out (fun k_ hk => (⟨hk, hk.2⟩ : _ ∧ k_ ≠ gb285))) (fun _ hk => hk.2) (.int .i64 ((rd_T41 t275 x11_4).f0))) (fun _ hk => hk.2) (.int .i64 ((rd_T41 t275 x11_4).f1))) (fun _ hk => hk.2) (.int .i64 ((rd_T41 t275 x11_4).f2))) (fun _ hk => hk.2) (.int .i64 ((rd_T41 t275 x11_4).f3))) (fun _ hk => hk.2) (.int .i64 ((rd_T41 t275 x11_4).f4))) (fun _ hk => hk.1.1)⟩, ⟨by (with_reducible repeat (fail)); refine blk_far ?_ NB281_285.out _; (with_reducible repeat (fail)); refine blk_far ?_ NB281_285.out _; (with_reducible repeat (fail)); refine blk_far ?_ NB281_285.out _; (with_reducible repeat (fail)); refine blk_far ?_ NB281_285.out _; (with_reducible repeat (fail)); refine blk_far ?_ NB281_285.out _; (with_reducible repeat (fail)); exact BK281.out⟩, ⟨by repeat ((with_reducible first | exact HB.out | refine below_set ?_ GE285.out))⟩⟩
                                  · rw [if_neg c42] at H
                                    have c42b0 : decide ((ji38) < (ji39)) = false := decide_eq_false c42
                                    clear c42
                                    have H' := Aside0.mk H
                                    clear H
                                    have p284 : 0 ≤ (x11_4 : Int) := of_decide_eq_true (by (with_reducible assumption))
                                    have q284 : x11_4 < (t275.length : Int) := of_decide_eq_true (by (with_reducible assumption))
                                    obtain ⟨ad284, e284, hx284_0, hx284_1, hx284_2, hx284_3, hx284_4⟩ := at_T41 (Kd.R_reads' HO_7.out).2.2 x11_4 p284 q284
                                    obtain rfl : ad280 = ad284 := (by injection e284)
                                    replace p284 := eq_true p284
                                    replace q284 := eq_true q284
                                    go_wp2_with (((with_reducible refine gate_dst (N := 12) rfl ?_); refine box_event ?hg (N := 12) ?hd (cs := #[.int .i64 0, .int .i64 0, .int .i64 0, .int .i64 0, .int .i64 0]) (t := 41) ?hr ?_; (case hd => rfl); (case hg => rfl); (case hr => (go_simp; done)); intro gb285 hg w52 hbox hb; have n0_ := Aside0.mk (Kd.R_below (Kd.R_elderB (by (with_reducible repeat (fail)); exact HO_7.out) gb285 (Nat.le_of_eq hg.symm)) hb); have n1_ := Aside0.mk (blk_below (g := gb281) (o := .cells #[.int .i64 ((rd_T41 t275 x9_2).f0), .int .i64 ((rd_T41 t275 x9_2).f1), .int .i64 ((rd_T41 t275 x9_2).f2), .int .i64 ((rd_T41 t275 x9_2).f3), .int .i64 ((rd_T41 t275 x9_2).f4)] 41 (0, 0)) (by (with_reducible repeat (fail)); exact BK281.out) hb); have n2_ := Aside0.mk (below_step (by repeat ((with_reducible exact HB.out))) hb); have n3_ := Aside0.mk (hbox); have n4_ := Aside0.mk ((by rw [hg]; exact (below_size (by repeat ((with_reducible exact HB.out)))) : w.heap.size ≤ gb285)); have n5_ := Aside0.mk ((by rw [hg]; exact (below_size (by repeat ((with_reducible exact HB.out)))) : w.heap.size ≤ gb285)); have n6_ := Aside0.mk ((by rw [hg]; exact Nat.ne_of_lt (blk_lt (g := gb281) (o := .cells #[.int .i64 ((rd_T41 t275 x9_2).f0), .int .i64 ((rd_T41 t275 x9_2).f1), .int .i64 ((rd_T41 t275 x9_2).f2), .int .i64 ((rd_T41 t275 x9_2).f3), .int .i64 ((rd_T41 t275 x9_2).f4)] 41 (0, 0)) (by (with_reducible repeat (fail)); exact BK281.out)) : gb281 ≠ gb285)); have n7_ := Aside0.mk ((by rw [hg]; exact Nat.ne_of_gt (blk_lt (g := gb281) (o := .cells #[.int .i64 ((rd_T41 t275 x9_2).f0), .int .i64 ((rd_T41 t275 x9_2).f1), .int .i64 ((rd_T41 t275 x9_2).f2), .int .i64 ((rd_T41 t275 x9_2).f3), .int .i64 ((rd_T41 t275 x9_2).f4)] 41 (0, 0)) (by (with_reducible repeat (fail)); exact BK281.out)) : gb285 ≠ gb281)); clear HO_7; clear BK281; clear HB; have HO_7 := n0_; have BK281 := n1_; have HB := n2_; have BK285 := n3_; have GW285 := n4_; have GE285 := n5_; have NB281_285 := n6_; have NB285_281 := n7_; clear n0_ n1_ n2_ n3_ n4_ n5_ n6_ n7_; clear hb hbox hg; have hnb53 := NB285_281.out; have hnc53 := NB281_285.out; have hcz54_0 : w52.cell? ⟨gb285, 0, none⟩ = some (.int .i64 0) := (blk_cell BK285.out 0).trans rfl; have hcz54_1 : w52.cell? ⟨gb285, 1, none⟩ = some (.int .i64 0) := (blk_cell BK285.out 1).trans rfl; have hcz54_2 : w52.cell? ⟨gb285, 2, none⟩ = some (.int .i64 0) := (blk_cell BK285.out 2).trans rfl; have hcz54_3 : w52.cell? ⟨gb285, 3, none⟩ = some (.int .i64 0) := (blk_cell BK285.out 3).trans rfl; have hcz54_4 : w52.cell? ⟨gb285, 4, none⟩ = some (.int .i64 0) := (blk_cell BK285.out 4).trans rfl; have hfz54_0 := blk_frozen BK285.out 0; have hfz54_1 := blk_frozen BK285.out 1; have hfz54_2 := blk_frozen BK285.out 2; have hfz54_3 := blk_frozen BK285.out 3; have hfz54_4 := blk_frozen BK285.out 4; have hcz55_0 : w52.cell? ⟨gb281, 0, none⟩ = some (.int .i64 ((rd_T41 t275 x9_2).f0)) := (blk_cell BK281.out 0).trans rfl; have hcz55_1 : w52.cell? ⟨gb281, 1, none⟩ = some (.int .i64 ((rd_T41 t275 x9_2).f1)) := (blk_cell BK281.out 1).trans rfl; have hcz55_2 : w52.cell? ⟨gb281, 2, none⟩ = some (.int .i64 ((rd_T41 t275 x9_2).f2)) := (blk_cell BK281.out 2).trans rfl; have hcz55_3 : w52.cell? ⟨gb281, 3, none⟩ = some (.int .i64 ((rd_T41 t275 x9_2).f3)) := (blk_cell BK281.out 3).trans rfl; have hcz55_4 : w52.cell? ⟨gb281, 4, none⟩ = some (.int .i64 ((rd_T41 t275 x9_2).f4)) := (blk_cell BK281.out 4).trans rfl; have hfz55_0 := blk_frozen BK281.out 0; have hfz55_1 := blk_frozen BK281.out 1; have hfz55_2 := blk_frozen BK281.out 2; have hfz55_3 := blk_frozen BK281.out 3; have hfz55_4 := blk_frozen BK281.out 4))
                                    repeat (go_quiet (fail); try go_wp2_with (fail))
                                    go_roundg k4
                                    case measure => have := HJ6.out; have := HK2.out; have := HJ16.out; have := HK4.out; omega
                                    case rel => exact ⟨(wrap64 (x11_4 + 1)), (by rfl), H', ⟨by have := HJ6.out; have := HK2.out; have := HJ16.out; have := HK4.out; omega⟩, ⟨by (with_reducible repeat (fail)); exact Kd.R_mono (Kd.R_far (p := ⟨gb285, 4, none⟩) (Kd.R_far (p := ⟨gb285, 3, none⟩) (Kd.R_far (p := ⟨gb285, 2, none⟩) (Kd.R_far (p := ⟨gb285, 1, none⟩) (Kd.R_far (p := ⟨gb285, 0, none⟩) (Kd.R_mono HO_7.out (fun k_ hk => (⟨hk, hk.2⟩ : _ ∧ k_ ≠ gb285))) (fun _ hk => hk.2) (.int .i64 ((rd_T41 t275 x11_4).f0))) (fun _ hk => hk.2) (.int .i64 ((rd_T41 t275 x11_4).f1))) (fun _ hk => hk.2) (.int .i64 ((rd_T41 t275 x11_4).f2))) (fun _ hk => hk.2) (.int .i64 ((rd_T41 t275 x11_4).f3))) (fun _ hk => hk.2) (.int .i64 ((rd_T41 t275 x11_4).f4))) (fun _ hk => hk.1.1)⟩, ⟨by (with_reducible repeat (fail)); refine blk_far ?_ NB281_285.out _; (with_reducible repeat (fail)); refine blk_far ?_ NB281_285.out _; (with_reducible repeat (fail)); refine blk_far ?_ NB281_285.out _; (with_reducible repeat (fail)); refine blk_far ?_ NB281_285.out _; (with_reducible repeat (fail)); refine blk_far ?_ NB281_285.out _; (with_reducible repeat (fail)); exact BK281.out⟩, ⟨by repeat ((with_reducible first | exact HB.out | refine below_set ?_ GE285.out))⟩⟩
                                · rw [if_neg c37] at H
                                  exact absurd H (by simp)
                              · rw [if_neg c36] at H
                                exact absurd H (by simp)
                            · rw [if_neg c35] at H
                              have c35b0 : decide (x11_4 < x9_2) = false := decide_eq_false c35
                              clear c35
                              have H' := Aside0.mk H
                              clear H
                              go_wp2
                              repeat (go_quiet (fail); try go_wp2)
                              go_roundg k4
                              case measure => have := HJ6.out; have := HK2.out; have := HJ16.out; have := HK4.out; omega
                              case rel => exact ⟨(wrap64 (x9_2 + 1)), (by rfl), H', ⟨by have := HJ6.out; have := HK2.out; have := HJ16.out; have := HK4.out; omega⟩, ⟨by (with_reducible repeat (fail)); exact Kd.R_mono HO_7.out (fun _ hk => trivial)⟩, ⟨by repeat ((with_reducible exact HB.out))⟩⟩
                · rw [if_neg c16] at H
                  exact absurd H (by simp)
              · rw [if_neg c15] at H
                have c15b0 : decide (x9_2 < (t275.length : Int)) = false := decide_eq_false c15
                clear c15
                obtain rfl := Option.some.inj H
                obtain ⟨Ao56, co56, eo56⟩ := Kd.R_slice HO_7.out
                subst eo56
                go_wp2
                repeat (go_quiet (fail); try go_wp2)
                go_ret
                exact ⟨by rfl, by repeat ((with_reducible exact HB.out))⟩

end Go.Proofs.Ytffmflmpiekcfab.PAll
