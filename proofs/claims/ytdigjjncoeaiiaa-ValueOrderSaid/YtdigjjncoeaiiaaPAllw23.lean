/- Printed by a program of this session (wip/gprint.py) over the translation, cut to what is named (wip/dcut.py). Not trusted: Lean checks it. -/
import Derived.Test.YtdigjjncoeaiiaaPAlld0
import Derived.Test.YtdigjjncoeaiiaaPAllw3
import Derived.Test.YtdigjjncoeaiiaaPAllw7
import Derived.Test.YtdigjjncoeaiiaaPAllw20
import Derived.Test.YtdigjjncoeaiiaaPAllw21
import Derived.Test.YtdigjjncoeaiiaaPAllw22
namespace Go.Proofs.Ytdigjjncoeaiiaa.PAll
open Go.RowKit Go.Proofs.YtdigjjncoeaiiaaW.PrintWords Go.Proofs.YtdigjjncoeaiiaaW.PrintLast Go.Proofs.YtdigjjncoeaiiaaW.PrintMore
attribute [local go_sem] max2_int min2_int max_two min_two max_three min_three max_four min_four -- for this text's walks alone
set_option linter.unusedVariables false
set_option linter.unusedSimpArgs false
set_option maxHeartbeats 8000000 in
set_option maxRecDepth 100000 in
theorem eval2_calls (e : S24) (width scale x0 x1 x2 x3 x4 x5 x6 x7 : Int) (A : Option Addr) (c : Nat) (w : World) (hr : Kd.C k24 w A e.f2.length e.f2) (hc : e.f2.length ≤ c) :
    Calls Try.prog 11 #[.agg #[.int .i64 e.f0, .int .i64 e.f1, .slice A e.f2.length c], .int .i64 width, .int .i64 scale, .agg #[.int .i64 x0, .int .i64 x1, .int .i64 x2, .int .i64 x3, .int .i64 x4, .int .i64 x5, .int .i64 x6, .int .i64 x7]] w fun r w' =>
      r = .returned (.tuple #[.int .i64 (evalP e width scale [x0, x1, x2, x3, x4, x5, x6, x7]).1, .int .i64 (evalP e width scale [x0, x1, x2, x3, x4, x5, x6, x7]).2]) ∧ Below w.heap.size w w' := by
  have VC := Aside0.mk (fun W h => valid_calls e A c W h hc)
  have RC := Aside0.mk (fun W => right_calls width scale x0 x1 x2 x3 x4 x5 x6 x7 W)
  have WI := Aside0.mk (fun W => value_within.calls width 0 1000000 _ W (within_of width 0 1000000))
  have OC := Aside0.mk (fun W => operators_calls W)
  have EV := Aside0.mk (fun b W (hv : validE e = true) (h1 : inI width 0 1000000 = true) (h2 : inI scale 50 300 = true) h ho => eval_calls width scale x0 x1 x2 x3 x4 x5 x6 x7 (by unfold inI at h1; simpa using h1) (by unfold inI at h2; simpa using h2) b 30 e A c W (formed_wf 30 e 100 hv) h hc ho)
  have HR := Aside0.mk hr
  clear hr
  have HB := Aside0.mk (below_alloc (below_alloc (below_alloc (Below.refl w.heap.size w) (.cells #[.int .i64 e.f0, .int .i64 e.f1, .slice A e.f2.length c] 24)) (.cells #[.int .i64 x0, .int .i64 x1, .int .i64 x2, .int .i64 x3, .int .i64 x4, .int .i64 x5, .int .i64 x6, .int .i64 x7] 25)) (.cells #[.int .i64 width, .int .i64 scale, .int .i64 x0, .int .i64 x1, .int .i64 x2, .int .i64 x3, .int .i64 x4, .int .i64 x5, .int .i64 x6, .int .i64 x7] 59))
  have N1 := Aside0.mk (blk_alloc (blk_alloc (blk_new w (.cells #[.int .i64 e.f0, .int .i64 e.f1, .slice A e.f2.length c] 24)) (.cells #[.int .i64 x0, .int .i64 x1, .int .i64 x2, .int .i64 x3, .int .i64 x4, .int .i64 x5, .int .i64 x6, .int .i64 x7] 25)) (.cells #[.int .i64 width, .int .i64 scale, .int .i64 x0, .int .i64 x1, .int .i64 x2, .int .i64 x3, .int .i64 x4, .int .i64 x5, .int .i64 x6, .int .i64 x7] 59))
  have N3 := Aside0.mk (blk_new ((w.alloc (.cells #[.int .i64 e.f0, .int .i64 e.f1, .slice A e.f2.length c] 24)).alloc (.cells #[.int .i64 x0, .int .i64 x1, .int .i64 x2, .int .i64 x3, .int .i64 x4, .int .i64 x5, .int .i64 x6, .int .i64 x7] 25)) (.cells #[.int .i64 width, .int .i64 scale, .int .i64 x0, .int .i64 x1, .int .i64 x2, .int .i64 x3, .int .i64 x4, .int .i64 x5, .int .i64 x6, .int .i64 x7] 59))
  simp only [World.size_alloc] at N3
  unfold evalP
  unfold aboutV at EV
  cases hv : validE e with
  | false =>
    rw [hv] at VC
    clear EV hv
    go_enter Try.func11, Try.ntmps11
    go_wp2_with (go_at_call 13; with_reducible refine (VC.out _ ?b1).mono ?_; (case b1 => exact Kd.C_below HR.out HB.out); rintro r w1 ⟨rfl, hb⟩; have HB1 := Aside0.mk (below_step HB.out hb); have M1 := Aside0.mk (blk_below N1.out hb); have M3 := Aside0.mk (blk_below N3.out hb); clear hb)
    go_ret2
    exact ⟨rfl, HB1.out⟩
  | true =>
    have VX := Aside0.mk hv
    rw [hv] at VC
    clear hv
    cases hsc : (inI scale 50 300 && [x0, x1, x2, x3, x4, x5, x6, x7].all coordB) with
    | false =>
      rw [hsc] at RC
      clear EV hsc
      go_enter Try.func11, Try.ntmps11
      go_wp2_with (first | (go_at_call 13; with_reducible refine (VC.out _ ?b1).mono ?_; (case b1 => exact Kd.C_below HR.out HB.out); rintro r w1 ⟨rfl, hb⟩; have HB1 := Aside0.mk (below_step HB.out hb); have M1 := Aside0.mk (blk_below N1.out hb); have M3 := Aside0.mk (blk_below N3.out hb); clear hb; have c0 := (blk_cell M3.out 0).trans rfl; have c1 := (blk_cell M3.out 1).trans rfl; have c2 := (blk_cell M3.out 2).trans rfl; have c3 := (blk_cell M3.out 3).trans rfl; have c4 := (blk_cell M3.out 4).trans rfl; have c5 := (blk_cell M3.out 5).trans rfl; have c6 := (blk_cell M3.out 6).trans rfl; have c7 := (blk_cell M3.out 7).trans rfl; have c8 := (blk_cell M3.out 8).trans rfl; have c9 := (blk_cell M3.out 9).trans rfl) | (go_at_call 27; with_reducible refine (RC.out _).mono ?_; rintro r w2 ⟨rfl, hb⟩; have HB2 := Aside0.mk (below_step HB1.out hb); have P1 := Aside0.mk (blk_below M1.out hb); have P3 := Aside0.mk (blk_below M3.out hb); clear hb; clear c0 c1 c2 c3 c4 c5 c6 c7 c8 c9))
      go_ret2
      exact ⟨rfl, HB2.out⟩
    | true =>
      rw [hsc] at RC
      have hsi := (Bool.and_eq_true_iff.1 hsc).1
      clear hsc
      cases hwi : inI width 0 1000000 with
      | false =>
        rw [hwi] at WI
        clear EV hwi hsi
        go_enter Try.func11, Try.ntmps11
        go_wp2_with (first | (go_at_call 13; with_reducible refine (VC.out _ ?b1).mono ?_; (case b1 => exact Kd.C_below HR.out HB.out); rintro r w1 ⟨rfl, hb⟩; have HB1 := Aside0.mk (below_step HB.out hb); have M1 := Aside0.mk (blk_below N1.out hb); have M3 := Aside0.mk (blk_below N3.out hb); clear hb; have c0 := (blk_cell M3.out 0).trans rfl; have c1 := (blk_cell M3.out 1).trans rfl; have c2 := (blk_cell M3.out 2).trans rfl; have c3 := (blk_cell M3.out 3).trans rfl; have c4 := (blk_cell M3.out 4).trans rfl; have c5 := (blk_cell M3.out 5).trans rfl; have c6 := (blk_cell M3.out 6).trans rfl; have c7 := (blk_cell M3.out 7).trans rfl; have c8 := (blk_cell M3.out 8).trans rfl; have c9 := (blk_cell M3.out 9).trans rfl) | (go_at_call 27; with_reducible refine (RC.out _).mono ?_; rintro r w2 ⟨rfl, hb⟩; have HB2 := Aside0.mk (below_step HB1.out hb); have P1 := Aside0.mk (blk_below M1.out hb); have P3 := Aside0.mk (blk_below M3.out hb); clear hb; clear c0 c1 c2 c3 c4 c5 c6 c7 c8 c9) | (go_at_call 28; with_reducible refine (WI.out _).mono ?_; rintro r w3 ⟨rfl, hd⟩; have hb := Drawn0.below hd; clear hd; have HB3 := Aside0.mk (below_step HB2.out hb); have Q1 := Aside0.mk (blk_below P1.out hb); have Q3 := Aside0.mk (blk_below P3.out hb); clear hb; have c0 := (blk_cell Q3.out 0).trans rfl; have c1 := (blk_cell Q3.out 1).trans rfl; have c2 := (blk_cell Q3.out 2).trans rfl; have c3 := (blk_cell Q3.out 3).trans rfl; have c4 := (blk_cell Q3.out 4).trans rfl; have c5 := (blk_cell Q3.out 5).trans rfl; have c6 := (blk_cell Q3.out 6).trans rfl; have c7 := (blk_cell Q3.out 7).trans rfl; have c8 := (blk_cell Q3.out 8).trans rfl; have c9 := (blk_cell Q3.out 9).trans rfl; have d0 := (blk_cell Q1.out 0).trans rfl; have d1 := (blk_cell Q1.out 1).trans rfl; have d2 := (blk_cell Q1.out 2).trans rfl))
        go_ret2
        exact ⟨rfl, HB3.out⟩
      | true =>
        have EW := Aside0.mk (fun b W h ho => EV.out b W VX.out hwi hsi h ho)
        rw [hwi] at WI
        clear EV hwi hsi
        simp only [Bool.true_and, if_true]
        generalize pairE (evF width scale [x0, x1, x2, x3, x4, x5, x6, x7] 30 e) = q at *
        go_enter Try.func11, Try.ntmps11
        go_wp2_with (first | (go_at_call 13; with_reducible refine (VC.out _ ?b1).mono ?_; (case b1 => exact Kd.C_below HR.out HB.out); rintro r w1 ⟨rfl, hb⟩; have HB1 := Aside0.mk (below_step HB.out hb); have M1 := Aside0.mk (blk_below N1.out hb); have M3 := Aside0.mk (blk_below N3.out hb); clear hb; have c0 := (blk_cell M3.out 0).trans rfl; have c1 := (blk_cell M3.out 1).trans rfl; have c2 := (blk_cell M3.out 2).trans rfl; have c3 := (blk_cell M3.out 3).trans rfl; have c4 := (blk_cell M3.out 4).trans rfl; have c5 := (blk_cell M3.out 5).trans rfl; have c6 := (blk_cell M3.out 6).trans rfl; have c7 := (blk_cell M3.out 7).trans rfl; have c8 := (blk_cell M3.out 8).trans rfl; have c9 := (blk_cell M3.out 9).trans rfl) | (go_at_call 27; with_reducible refine (RC.out _).mono ?_; rintro r w2 ⟨rfl, hb⟩; have HB2 := Aside0.mk (below_step HB1.out hb); have P1 := Aside0.mk (blk_below M1.out hb); have P3 := Aside0.mk (blk_below M3.out hb); clear hb; clear c0 c1 c2 c3 c4 c5 c6 c7 c8 c9) | (go_at_call 28; with_reducible refine (WI.out _).mono ?_; rintro r w3 ⟨rfl, hd⟩; have hb := Drawn0.below hd; clear hd; have HB3 := Aside0.mk (below_step HB2.out hb); have Q1 := Aside0.mk (blk_below P1.out hb); have Q3 := Aside0.mk (blk_below P3.out hb); clear hb; have c0 := (blk_cell Q3.out 0).trans rfl; have c1 := (blk_cell Q3.out 1).trans rfl; have c2 := (blk_cell Q3.out 2).trans rfl; have c3 := (blk_cell Q3.out 3).trans rfl; have c4 := (blk_cell Q3.out 4).trans rfl; have c5 := (blk_cell Q3.out 5).trans rfl; have c6 := (blk_cell Q3.out 6).trans rfl; have c7 := (blk_cell Q3.out 7).trans rfl; have c8 := (blk_cell Q3.out 8).trans rfl; have c9 := (blk_cell Q3.out 9).trans rfl; have d0 := (blk_cell Q1.out 0).trans rfl; have d1 := (blk_cell Q1.out 1).trans rfl; have d2 := (blk_cell Q1.out 2).trans rfl))
        go_region_with (first
          | (go_at_call 30; refine (OC.out _).mono ?_; rintro r w4 ⟨rfl, ho, hb⟩; have HO4 := Aside0.mk ho; have HB4 := Aside0.mk (below_step (by repeat (first | (with_reducible first | exact HB3.out | apply below_alloc | apply pw_below_drewN | apply below_drew1) | exact HB3.out)) hb); have R1 := Aside0.mk (blk_below (blk_drew Q1.out) hb); have R3 := Aside0.mk (blk_below (blk_drew Q3.out) hb); clear ho hb; have e0 := (blk_cell R3.out 0).trans rfl; have e1 := (blk_cell R3.out 1).trans rfl; have e2 := (blk_cell R3.out 2).trans rfl; have e3 := (blk_cell R3.out 3).trans rfl; have e4 := (blk_cell R3.out 4).trans rfl; have e5 := (blk_cell R3.out 5).trans rfl; have e6 := (blk_cell R3.out 6).trans rfl; have e7 := (blk_cell R3.out 7).trans rfl; have e8 := (blk_cell R3.out 8).trans rfl; have e9 := (blk_cell R3.out 9).trans rfl; have f0 := (blk_cell R1.out 0).trans rfl; have f1 := (blk_cell R1.out 1).trans rfl; have f2 := (blk_cell R1.out 2).trans rfl)
          | (go_at_call 29; refine (EW.out _ _ ?b1 ?b2).mono ?_; (case b1 => exact Kd.C_below HR.out HB4.out); (case b2 => exact HO4.out); rintro r w5 ⟨rfl, hb⟩; have HB5 := Aside0.mk (below_step (by repeat (first | (with_reducible first | exact HB4.out | apply below_alloc | apply pw_below_drewN | apply below_drew1) | exact HB4.out)) hb); clear hb))
        all_goals (go_wp2; go_ret2; exact ⟨rfl, (by repeat (first | (with_reducible first | exact HB5.out | apply below_alloc | apply pw_below_drewN | apply below_drew1) | exact HB5.out))⟩)
theorem value_Eval.calls (a0_0 a0_1 : Int) (A0_2 : Option Addr) (c0_2 : Nat) (l0_2 : List (S24)) (a1 a2 a3_0 a3_1 a3_2 a3_3 a3_4 a3_5 a3_6 a3_7 : Int) (r1 r2 : Int) (w : World) (hr0_2 : Kd.C k24 w A0_2 l0_2.length l0_2) (hc0_2 : l0_2.length ≤ c0_2) (h : value_Eval.f a0_0 a0_1 l0_2 a1 a2 a3_0 a3_1 a3_2 a3_3 a3_4 a3_5 a3_6 a3_7 = some (r1, r2)) :
    Calls Try.prog 11 #[.agg #[.int .i64 a0_0, .int .i64 a0_1, .slice A0_2 l0_2.length c0_2], .int .i64 a1, .int .i64 a2, .agg #[.int .i64 a3_0, .int .i64 a3_1, .int .i64 a3_2, .int .i64 a3_3, .int .i64 a3_4, .int .i64 a3_5, .int .i64 a3_6, .int .i64 a3_7]] w fun e w' => e = .returned (.tuple #[.int .i64 r1, .int .i64 r2]) ∧ Below w.heap.size w w' := by
  have h1 := Option.some.inj h
  have h2 := eval2_calls ⟨a0_0, a0_1, l0_2⟩ a1 a2 a3_0 a3_1 a3_2 a3_3 a3_4 a3_5 a3_6 a3_7 A0_2 c0_2 w hr0_2 hc0_2
  rw [h1] at h2
  exact h2
end Go.Proofs.Ytdigjjncoeaiiaa.PAll
